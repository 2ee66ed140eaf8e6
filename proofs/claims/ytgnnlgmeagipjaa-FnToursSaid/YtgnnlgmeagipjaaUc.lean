import Derived.Test.YtgnnlgmeagipjaaUb
import Derived.KernelRfl
set_option linter.unusedVariables false
set_option linter.unusedSimpArgs false
namespace Go.Proofs.Ytgnnlgmeagipjaa
open Go Go.RowKit K
theorem DrawShortestWay_c (a : Option Addr) (lc capc : Nat) (w : World) (hcd : CodeOk w [] a lc) : Calls Try.prog 27 ([.slice a lc capc]).toArray w (fun e w' => ∃ q : (Option Nat × Nat × List Value × List Road) × Int × Int, ((Sl 3 q.1.1 q.1.2.2.2.length q.1.2.1 (flat encRoad q.1.2.2.2) q.1.2.2.1 ∧ q.1.2.2.2.length ≤ 70 ∧ (∀ y ∈ q.1.2.2.2, GRoad y)) ∧ In64 q.2.1 ∧ In64 q.2.2) ∧ e = .returned (.tuple #[sv q.1.1 q.1.2.2.2.length q.1.2.1, .int .i64 q.2.1, .int .i64 q.2.2]) ∧ Hp ⟨w, []⟩ [(q.1.1, 65, flat encRoad q.1.2.2.2 ++ q.1.2.2.1)] w') := by
  refine calls_ct Try.func27 Try.ntmps27 rfl rfl ?_
  refine ct_seq ?_
  refine ct_reg ?_
  refine rl_val gw_none (ov_assign rfl) rfl ?_
  refine rl_val gw_none (ov_assign rfl) rfl ?_
  refine rl_val gw_none (ov_assign rfl) rfl ?_
  refine rl_nil ?_
  refine at_then ?_
  refine ct_seq ?_
  refine ct_reg ?_
  refine rl_val gw_none (ov_move rfl) rfl ?_
  refine rl_val gw_none (ov_build rfl (bu83_0 _ _ _)) rfl ?_
  refine rl_box rfl rfl (fun N1 => ?_)
  refine rl_val gw_none (ov_assign rfl) rfl ?_
  refine rl_nil ?_
  refine at_then ?_
  refine ct_seq ?_
  refine ct_reg ?_
  refine rl_val gw_none (ov_move rfl) rfl ?_
  refine rl_calld (ι := (Option Nat × Nat × List Value × List Road) × Int × Int) (fun j => sv j.1.1 j.1.2.2.2.length j.1.2.1) [_] [] (fun j => [(_, 83, [_, .int .i64 j.2.1, .int .u64 j.2.2]), (j.1.1, 65, flat encRoad j.1.2.2.2 ++ j.1.2.2.1)]) (fun j => (Sl 3 j.1.1 j.1.2.2.2.length j.1.2.1 (flat encRoad j.1.2.2.2) j.1.2.2.1 ∧ j.1.2.2.2.length ≤ 70 ∧ (∀ y ∈ j.1.2.2.2, GRoad y)) ∧ _ ≤ j.2.1 ∧ j.2.1 ≤ _ + 700) gw_none goes55 rfl (fun _ hq => (hq).pull 0 rfl) (fun w1 hp h0 => roads24_c _ _ _ _ _ _ _ _ h0 (hcd.call hp (by simp)) (by omega)) rfl (fun jr hjr => ?_)
  obtain ⟨⟨br, cr, pr, xs⟩, tr, sr⟩ := jr
  obtain ⟨⟨hslr, hr, hGr⟩, htr⟩ := hjr
  dsimp only at hslr hr hGr htr
  try dsimp only
  refine rl_val gw_none (ov_assign rfl) rfl ?_
  refine rl_nil ?_
  refine at_then ?_
  refine ct_seq ?_
  refine ct_reg ?_
  refine rl_val gw_none (ov_move rfl) rfl ?_
  refine rl_val gw_none (ov_move rfl) rfl ?_
  refine rl_calld (ι := (Int) × Int × Int) (fun j => .int .i64 j.1) [_] [_] (fun j => [(_, 83, [_, .int .i64 j.2.1, .int .u64 j.2.2])]) (fun j => (-1 ≤ j.1 ∧ j.1 ≤ 8) ∧ _ ≤ j.2.1 ∧ j.2.1 ≤ _ + 10) gw_none goes64 rfl (fun _ hq => (hq).pull 0 rfl) (fun w1 hp h0 => town24_c _ _ _ _ _ _ _ _ h0 (hcd.call hp (by simp)) (by omega)) rfl (fun jf hjf => ?_)
  obtain ⟨vf, tf, sf⟩ := jf
  dsimp only at hjf
  try dsimp only
  refine rl_val gw_none (ov_move rfl) rfl ?_
  refine rl_calld (ι := (Int) × Int × Int) (fun j => .int .i64 j.1) [_] [_] (fun j => [(_, 83, [_, .int .i64 j.2.1, .int .u64 j.2.2])]) (fun j => (-1 ≤ j.1 ∧ j.1 ≤ 8) ∧ _ ≤ j.2.1 ∧ j.2.1 ≤ _ + 10) gw_none goes64 rfl (fun _ hq => (hq).pull 0 rfl) (fun w1 hp h0 => town24_c _ _ _ _ _ _ _ _ h0 (hcd.call hp (by simp)) (by omega)) rfl (fun jt hjt => ?_)
  obtain ⟨vt, tt, st⟩ := jt
  dsimp only at hjt
  try dsimp only
  refine rl_val gw_none (ov_assign rfl) rfl ?_
  refine rl_val gw_none (ov_assign rfl) rfl ?_
  refine rl_val gw_none (ov_assign rfl) rfl ?_
  refine rl_nil ?_
  refine at_then ?_
  refine ct_ret ?_
  refine at_ret3 Try.results27 (ro_tmp rfl) (ro_tmp rfl) (ro_tmp rfl) (fun w1 hp => ?_)
  exact ⟨((br, cr, pr, xs), vf, vt), ⟨⟨hslr, hr, hGr⟩, by unfold In64; dsimp only; omega, by unfold In64; dsimp only; omega⟩, rfl, (Hp.sub (Hp.pull hp 1 rfl) (List.sublist_append_left [_] _))⟩

theorem DrawTownsWithin_c (a : Option Addr) (lc capc : Nat) (w : World) (hcd : CodeOk w [] a lc) : Calls Try.prog 32 ([.slice a lc capc]).toArray w (fun e w' => ∃ q : (Option Nat × Nat × List Value × List Road) × Int × Int, ((Sl 3 q.1.1 q.1.2.2.2.length q.1.2.1 (flat encRoad q.1.2.2.2) q.1.2.2.1 ∧ q.1.2.2.2.length ≤ 70 ∧ (∀ y ∈ q.1.2.2.2, GRoad y)) ∧ In64 q.2.1 ∧ In64 q.2.2) ∧ e = .returned (.tuple #[sv q.1.1 q.1.2.2.2.length q.1.2.1, .int .i64 q.2.1, .int .i64 q.2.2]) ∧ Hp ⟨w, []⟩ [(q.1.1, 65, flat encRoad q.1.2.2.2 ++ q.1.2.2.1)] w') := by
  refine calls_ct Try.func32 Try.ntmps32 rfl rfl ?_
  refine ct_seq ?_
  refine ct_reg ?_
  refine rl_val gw_none (ov_assign rfl) rfl ?_
  refine rl_val gw_none (ov_assign rfl) rfl ?_
  refine rl_val gw_none (ov_assign rfl) rfl ?_
  refine rl_nil ?_
  refine at_then ?_
  refine ct_seq ?_
  refine ct_reg ?_
  refine rl_val gw_none (ov_move rfl) rfl ?_
  refine rl_val gw_none (ov_build rfl (bu83_0 _ _ _)) rfl ?_
  refine rl_box rfl rfl (fun N1 => ?_)
  refine rl_val gw_none (ov_assign rfl) rfl ?_
  refine rl_nil ?_
  refine at_then ?_
  refine ct_seq ?_
  refine ct_reg ?_
  refine rl_val gw_none (ov_move rfl) rfl ?_
  refine rl_calld (ι := (Option Nat × Nat × List Value × List Road) × Int × Int) (fun j => sv j.1.1 j.1.2.2.2.length j.1.2.1) [_] [] (fun j => [(_, 83, [_, .int .i64 j.2.1, .int .u64 j.2.2]), (j.1.1, 65, flat encRoad j.1.2.2.2 ++ j.1.2.2.1)]) (fun j => (Sl 3 j.1.1 j.1.2.2.2.length j.1.2.1 (flat encRoad j.1.2.2.2) j.1.2.2.1 ∧ j.1.2.2.2.length ≤ 70 ∧ (∀ y ∈ j.1.2.2.2, GRoad y)) ∧ _ ≤ j.2.1 ∧ j.2.1 ≤ _ + 700) gw_none goes55 rfl (fun _ hq => (hq).pull 0 rfl) (fun w1 hp h0 => roads24_c _ _ _ _ _ _ _ _ h0 (hcd.call hp (by simp)) (by omega)) rfl (fun jr hjr => ?_)
  obtain ⟨⟨br, cr, pr, xs⟩, tr, sr⟩ := jr
  obtain ⟨⟨hslr, hr, hGr⟩, htr⟩ := hjr
  dsimp only at hslr hr hGr htr
  try dsimp only
  refine rl_val gw_none (ov_assign rfl) rfl ?_
  refine rl_nil ?_
  refine at_then ?_
  refine ct_seq ?_
  refine ct_reg ?_
  refine rl_val gw_none (ov_move rfl) rfl ?_
  refine rl_val gw_none (ov_move rfl) rfl ?_
  refine rl_calld (ι := (Int) × Int × Int) (fun j => .int .i64 j.1) [_] [_] (fun j => [(_, 83, [_, .int .i64 j.2.1, .int .u64 j.2.2])]) (fun j => (-1 ≤ j.1 ∧ j.1 ≤ 8) ∧ _ ≤ j.2.1 ∧ j.2.1 ≤ _ + 10) gw_none goes64 rfl (fun _ hq => (hq).pull 0 rfl) (fun w1 hp h0 => town24_c _ _ _ _ _ _ _ _ h0 (hcd.call hp (by simp)) (by omega)) rfl (fun jf hjf => ?_)
  obtain ⟨vf, tf, sf⟩ := jf
  dsimp only at hjf
  try dsimp only
  refine rl_val gw_none (ov_move rfl) rfl ?_
  refine rl_bslice Try.underlying39 ze3 sz3 rfl rfl rfl rfl rfl rfl (fun N2 => ?_)
  refine rl_val gw_none (ov_move rfl) rfl ?_
  refine rl_calld (ι := (Int) × Int × Int) (fun j => .int .i64 j.1) [_] [_, _] (fun j => [(_, 83, [_, .int .i64 j.2.1, .int .u64 j.2.2])]) (fun j => (0 ≤ j.1 ∧ (j.1 < _ ∨ j.1 = 0)) ∧ _ ≤ j.2.1 ∧ j.2.1 ≤ _ + 2) gw_none goes57 rfl (fun _ hq => (hq).pull 1 rfl) (fun w1 hp h0 => pick_c _ _ _ _ _ _ _ _ _ h0 (hcd.call hp (by simp)) (by omega) (by omega)) rfl (fun jp hjp => ?_)
  obtain ⟨vp, tp, sp⟩ := jp
  dsimp only at hjp
  try dsimp only
  refine rl_val gw_none (ov_quo rfl rfl (by omega) (by omega) (by omega)) rfl ?_
  refine rl_val gw_none (ov_add rfl rfl (by omega)) rfl ?_
  refine rl_val gw_none (ov_subh Try.underlying39 sz3 rfl rfl ((5 + vp / 11).toNat) (by omega) (by show _ ≤ 7; omega)) rfl ?_
  refine rl_calld (ι := (Int) × Int × Int) (fun j => .int .i64 j.1) [_, _] [_] (fun j => [(_, 83, [_, .int .i64 j.2.1, .int .u64 j.2.2])]) (fun j => ((-1000000) ≤ j.1 ∧ j.1 ≤ 1000000) ∧ _ ≤ j.2.1 ∧ j.2.1 ≤ _ + 2) gw_none goes60 rfl (fun _ hq => ((hq).pull 1 rfl).pull 1 rfl) (fun w1 hp h0 => among_c (-1000000) 1000000 _ _ _ _ _ _ _ _ _ _ _ _ h0 (hcd.call hp (by simp)) (by omega) (by first | rfl | decide | (simp [okIntsR]; done) | (simp [okIntsR]; omega) | (simp [okIntsR, Value.cells]; omega)) (by first | decide | (simp; done) | (simp; omega) | omega | (simp [Value.cells]; done) | (simp [Value.cells]; omega))) rfl (fun ja hja => ?_)
  obtain ⟨va, ta, sa⟩ := ja
  dsimp only at hja
  try dsimp only
  refine rl_val gw_none (ov_assign rfl) rfl ?_
  refine rl_val gw_none (ov_assign rfl) rfl ?_
  refine rl_val gw_none (ov_assign rfl) rfl ?_
  refine rl_nil ?_
  refine at_then ?_
  refine ct_ret ?_
  refine at_ret3 Try.results32 (ro_tmp rfl) (ro_tmp rfl) (ro_tmp rfl) (fun w1 hp => ?_)
  exact ⟨((br, cr, pr, xs), vf, va), ⟨⟨hslr, hr, hGr⟩, by unfold In64; dsimp only; omega, by unfold In64; dsimp only; omega⟩, rfl, (Hp.sub (Hp.pull hp 1 rfl) (List.sublist_append_left [_] _))⟩

theorem DrawAreRoads_c (a : Option Addr) (lc capc : Nat) (w : World) (hcd : CodeOk w [] a lc) : Calls Try.prog 66 ([.slice a lc capc]).toArray w (fun e w' => ∃ q : Option Nat × Nat × List Value × List Road, (Sl 3 q.1 q.2.2.2.length q.2.1 (flat encRoad q.2.2.2) q.2.2.1 ∧ q.2.2.2.length ≤ 70 ∧ (∀ y ∈ q.2.2.2, GRoad y)) ∧ e = .returned (sv q.1 q.2.2.2.length q.2.1) ∧ Hp ⟨w, []⟩ [(q.1, 65, flat encRoad q.2.2.2 ++ q.2.2.1)] w') := by
  refine calls_ct Try.func66 Try.ntmps66 rfl rfl ?_
  refine ct_seq ?_
  refine ct_reg ?_
  refine rl_val gw_none (ov_assign rfl) rfl ?_
  refine rl_nil ?_
  refine at_then ?_
  refine ct_seq ?_
  refine ct_reg ?_
  refine rl_val gw_none (ov_move rfl) rfl ?_
  refine rl_val gw_none (ov_build rfl (bu83_0 _ _ _)) rfl ?_
  refine rl_box rfl rfl (fun N1 => ?_)
  refine rl_val gw_none (ov_assign rfl) rfl ?_
  refine rl_nil ?_
  refine at_then ?_
  refine ct_seq ?_
  refine ct_reg ?_
  refine rl_val gw_none (ov_move rfl) rfl ?_
  refine rl_calld (ι := (Option Nat × Nat × List Value × List Road) × Int × Int) (fun j => sv j.1.1 j.1.2.2.2.length j.1.2.1) [_] [] (fun j => [(_, 83, [_, .int .i64 j.2.1, .int .u64 j.2.2]), (j.1.1, 65, flat encRoad j.1.2.2.2 ++ j.1.2.2.1)]) (fun j => (Sl 3 j.1.1 j.1.2.2.2.length j.1.2.1 (flat encRoad j.1.2.2.2) j.1.2.2.1 ∧ j.1.2.2.2.length ≤ 70 ∧ (∀ y ∈ j.1.2.2.2, GRoad y)) ∧ _ ≤ j.2.1 ∧ j.2.1 ≤ _ + 700) gw_none goes55 rfl (fun _ hq => (hq).pull 0 rfl) (fun w1 hp h0 => roads24_c _ _ _ _ _ _ _ _ h0 (hcd.call hp (by simp)) (by omega)) rfl (fun jr hjr => ?_)
  obtain ⟨⟨br, cr, pr, xs⟩, tr, sr⟩ := jr
  obtain ⟨⟨hslr, hr, hGr⟩, htr⟩ := hjr
  dsimp only at hslr hr hGr htr
  try dsimp only
  refine rl_val gw_none (ov_assign rfl) rfl ?_
  refine rl_nil ?_
  refine at_then ?_
  refine ct_ret ?_
  refine at_ret1 Try.results66 (ro_tmp rfl) (fun w1 hp => ?_)
  exact ⟨(br, cr, pr, xs), ⟨hslr, hr, hGr⟩, rfl, (Hp.sub (Hp.pull hp 1 rfl) (List.sublist_append_left [_] _))⟩

theorem DrawCutTowns_c (a : Option Addr) (lc capc : Nat) (w : World) (hcd : CodeOk w [] a lc) : Calls Try.prog 34 ([.slice a lc capc]).toArray w (fun e w' => ∃ q : Option Nat × Nat × List Value × List Road, (Sl 3 q.1 q.2.2.2.length q.2.1 (flat encRoad q.2.2.2) q.2.2.1 ∧ q.2.2.2.length ≤ 70 ∧ (∀ y ∈ q.2.2.2, GRoad y)) ∧ e = .returned (sv q.1 q.2.2.2.length q.2.1) ∧ Hp ⟨w, []⟩ [(q.1, 65, flat encRoad q.2.2.2 ++ q.2.2.1)] w') := by
  refine calls_ct Try.func34 Try.ntmps34 rfl rfl ?_
  refine ct_seq ?_
  refine ct_reg ?_
  refine rl_val gw_none (ov_assign rfl) rfl ?_
  refine rl_nil ?_
  refine at_then ?_
  refine ct_seq ?_
  refine ct_reg ?_
  refine rl_val gw_none (ov_move rfl) rfl ?_
  refine rl_calle (ι := Option Nat × Nat × List Value × List Road) (fun q => sv q.1 q.2.2.2.length q.2.1) (fun q => [(q.1, 65, flat encRoad q.2.2.2 ++ q.2.2.1)]) (fun q => Sl 3 q.1 q.2.2.2.length q.2.1 (flat encRoad q.2.2.2) q.2.2.1 ∧ q.2.2.2.length ≤ 70 ∧ (∀ y ∈ q.2.2.2, GRoad y)) goes66 rfl (fun w1 hp => DrawAreRoads_c _ _ _ _ (hcd.call hp (E := []) (by simp))) rfl (fun qd hqd => ?_)
  obtain ⟨br, cr, pr, xs⟩ := qd
  obtain ⟨hslr, hr, hGr⟩ := hqd
  dsimp only at hslr hr hGr
  try dsimp only
  refine rl_val gw_none (ov_assign rfl) rfl ?_
  refine rl_nil ?_
  refine at_then ?_
  refine ct_ret ?_
  refine at_ret1 Try.results34 (ro_tmp rfl) (fun w1 hp => ?_)
  exact ⟨(br, cr, pr, xs), ⟨hslr, hr, hGr⟩, rfl, (Hp.sub (Hp.pull hp 0 rfl) (List.sublist_append_left [_] _))⟩
end Go.Proofs.Ytgnnlgmeagipjaa
