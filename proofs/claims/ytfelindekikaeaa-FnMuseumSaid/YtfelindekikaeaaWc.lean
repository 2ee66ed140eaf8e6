import Derived.Test.YtfelindekikaeaaWb
import Derived.KernelRfl
set_option linter.unusedVariables false
set_option linter.unusedSimpArgs false
namespace Go.Proofs.Ytfelindekikaeaa
open Go Go.RowKit K
theorem DrawKinsOf_c (a : Option Addr) (lc capc : Nat) (w : World) (hcd : CodeOk w [] a lc) : Calls Try.prog 35 ([.slice a lc capc]).toArray w (fun e w' => ∃ q : (Option Nat × Nat × List Value × List Exhibit) × Int, ((Sl 7 q.1.1 q.1.2.2.2.length q.1.2.1 (flat encExhibit q.1.2.2.2) q.1.2.2.1 ∧ q.1.2.2.2.length ≤ 12 ∧ (∀ y ∈ q.1.2.2.2, boundE y)) ∧ In64 q.2) ∧ e = .returned (.tuple #[sv q.1.1 q.1.2.2.2.length q.1.2.1, .int .i64 q.2]) ∧ Hp ⟨w, []⟩ [(q.1.1, 46, flat encExhibit q.1.2.2.2 ++ q.1.2.2.1)] w') := by
  refine calls_ct Try.func35 Try.ntmps35 rfl rfl ?_
  refine ct_seq ?_
  refine ct_reg ?_
  refine rl_val gw_none (ov_assign rfl) rfl ?_
  refine rl_val gw_none (ov_assign rfl) rfl ?_
  refine rl_nil ?_
  refine at_then ?_
  refine ct_seq ?_
  refine ct_reg ?_
  refine rl_val gw_none (ov_move rfl) rfl ?_
  refine rl_val gw_none (ov_build rfl (bu74_0 _ _ _)) rfl ?_
  refine rl_box rfl rfl (fun N1 => ?_)
  refine rl_val gw_none (ov_assign rfl) rfl ?_
  refine rl_nil ?_
  refine at_then ?_
  refine ct_seq ?_
  refine ct_reg ?_
  refine rl_val gw_none (ov_move rfl) rfl ?_
  refine rl_calld (ι := (Option Nat × Nat × List Value × List Exhibit) × Int × Int) (fun j => sv j.1.1 j.1.2.2.2.length j.1.2.1) [_] [] (fun j => [(_, 74, [_, .int .i64 j.2.1, .int .u64 j.2.2]), (j.1.1, 46, flat encExhibit j.1.2.2.2 ++ j.1.2.2.1)]) (fun j => (Sl 7 j.1.1 j.1.2.2.2.length j.1.2.1 (flat encExhibit j.1.2.2.2) j.1.2.2.1 ∧ j.1.2.2.2.length ≤ 12 ∧ (∀ y ∈ j.1.2.2.2, boundE y)) ∧ _ ≤ j.2.1 ∧ j.2.1 ≤ _ + 3000) gw_none goes62 rfl (fun _ hq => (hq).pull 0 rfl) (fun w1 hp h0 => exhibits_c _ _ _ _ _ _ _ _ h0 (hcd.call hp (by simp)) (by omega)) rfl (fun jx hjx => ?_)
  obtain ⟨⟨bx, cx, px, xs⟩, tx, sx⟩ := jx
  obtain ⟨⟨hslx, hx12, hGx⟩, htx⟩ := hjx
  dsimp only at hslx hx12 hGx htx
  try dsimp only
  refine rl_val gw_none (ov_assign rfl) rfl ?_
  refine rl_nil ?_
  refine at_then ?_
  refine ct_seq ?_
  refine ct_reg ?_
  refine rl_val gw_none (ov_move rfl) rfl ?_
  refine rl_val gw_none (ov_move rfl) rfl ?_
  refine rl_val gw_none (ov_move rfl) rfl ?_
  refine rl_calld (ι := (Int) × Int × Int) (fun j => .int .i64 j.1) [_, _] [] (fun j => [(_, 74, [_, .int .i64 j.2.1, .int .u64 j.2.2]), (bx, 46, flat encExhibit xs ++ px)]) (fun j => (In64 j.1) ∧ _ ≤ j.2.1 ∧ j.2.1 ≤ _ + 10) gw_none goes72 rfl (fun _ hq => ((hq).pull 1 rfl).pull 1 rfl) (fun w1 hp h0 => exhibitId_c _ _ _ _ _ _ _ _ _ _ _ _ h0 (hcd.call hp (by simp)) (by omega) hslx hGx hx12) rfl (fun jf hjf => ?_)
  obtain ⟨vf, tf, sf⟩ := jf
  dsimp only at hjf
  try dsimp only
  refine rl_val gw_none (ov_assign rfl) rfl ?_
  refine rl_val gw_none (ov_assign rfl) rfl ?_
  refine rl_nil ?_
  refine at_then ?_
  refine ct_ret ?_
  refine at_ret2 Try.results35 (ro_tmp rfl) (ro_tmp rfl) (fun w1 hp => ?_)
  exact ⟨((bx, cx, px, xs), vf), ⟨⟨hslx, hx12, hGx⟩, hjf.1⟩, rfl, (Hp.sub (Hp.pull hp 1 rfl) (List.sublist_append_left [_] _))⟩

theorem DrawMoveExhibit_c (a : Option Addr) (lc capc : Nat) (w : World) (hcd : CodeOk w [] a lc) : Calls Try.prog 38 ([.slice a lc capc]).toArray w (fun e w' => ∃ q : (Option Nat × Nat × List Value × List Exhibit) × (Int × Int), ((Sl 7 q.1.1 q.1.2.2.2.length q.1.2.1 (flat encExhibit q.1.2.2.2) q.1.2.2.1 ∧ q.1.2.2.2.length ≤ 12 ∧ (∀ y ∈ q.1.2.2.2, boundE y)) ∧ (In64 q.2.1 ∧ In64 q.2.2)) ∧ e = .returned (.tuple #[sv q.1.1 q.1.2.2.2.length q.1.2.1, .int .i64 q.2.1, .int .i64 q.2.2]) ∧ Hp ⟨w, []⟩ [(q.1.1, 46, flat encExhibit q.1.2.2.2 ++ q.1.2.2.1)] w') := by
  refine calls_ct Try.func38 Try.ntmps38 rfl rfl ?_
  refine ct_seq ?_
  refine ct_reg ?_
  refine rl_val gw_none (ov_assign rfl) rfl ?_
  refine rl_val gw_none (ov_assign rfl) rfl ?_
  refine rl_val gw_none (ov_assign rfl) rfl ?_
  refine rl_nil ?_
  refine at_then ?_
  refine ct_seq ?_
  refine ct_reg ?_
  refine rl_val gw_none (ov_move rfl) rfl ?_
  refine rl_val gw_none (ov_build rfl (bu74_0 _ _ _)) rfl ?_
  refine rl_box rfl rfl (fun N1 => ?_)
  refine rl_val gw_none (ov_assign rfl) rfl ?_
  refine rl_nil ?_
  refine at_then ?_
  refine ct_seq ?_
  refine ct_reg ?_
  refine rl_val gw_none (ov_move rfl) rfl ?_
  refine rl_calld (ι := (Option Nat × Nat × List Value × List Exhibit) × Int × Int) (fun j => sv j.1.1 j.1.2.2.2.length j.1.2.1) [_] [] (fun j => [(_, 74, [_, .int .i64 j.2.1, .int .u64 j.2.2]), (j.1.1, 46, flat encExhibit j.1.2.2.2 ++ j.1.2.2.1)]) (fun j => (Sl 7 j.1.1 j.1.2.2.2.length j.1.2.1 (flat encExhibit j.1.2.2.2) j.1.2.2.1 ∧ j.1.2.2.2.length ≤ 12 ∧ (∀ y ∈ j.1.2.2.2, boundE y)) ∧ _ ≤ j.2.1 ∧ j.2.1 ≤ _ + 3000) gw_none goes62 rfl (fun _ hq => (hq).pull 0 rfl) (fun w1 hp h0 => exhibits_c _ _ _ _ _ _ _ _ h0 (hcd.call hp (by simp)) (by omega)) rfl (fun jx hjx => ?_)
  obtain ⟨⟨bx, cx, px, xs⟩, tx, sx⟩ := jx
  obtain ⟨⟨hslx, hx12, hGx⟩, htx⟩ := hjx
  dsimp only at hslx hx12 hGx htx
  try dsimp only
  refine rl_val gw_none (ov_assign rfl) rfl ?_
  refine rl_nil ?_
  refine at_then ?_
  refine ct_seq ?_
  refine ct_reg ?_
  refine rl_val gw_none (ov_move rfl) rfl ?_
  refine rl_val gw_none (ov_move rfl) rfl ?_
  refine rl_val gw_none (ov_move rfl) rfl ?_
  refine rl_calld (ι := (Int) × Int × Int) (fun j => .int .i64 j.1) [_, _] [] (fun j => [(_, 74, [_, .int .i64 j.2.1, .int .u64 j.2.2]), (bx, 46, flat encExhibit xs ++ px)]) (fun j => (In64 j.1) ∧ _ ≤ j.2.1 ∧ j.2.1 ≤ _ + 10) gw_none goes72 rfl (fun _ hq => ((hq).pull 1 rfl).pull 1 rfl) (fun w1 hp h0 => exhibitId_c _ _ _ _ _ _ _ _ _ _ _ _ h0 (hcd.call hp (by simp)) (by omega) hslx hGx hx12) rfl (fun jf hjf => ?_)
  obtain ⟨vf, tf, sf⟩ := jf
  dsimp only at hjf
  try dsimp only
  refine rl_val gw_none (ov_move rfl) rfl ?_
  refine rl_bslice Try.underlying24 ze3 sz3 rfl rfl rfl rfl rfl rfl (fun N2 => ?_)
  refine rl_val gw_none (ov_move rfl) rfl ?_
  refine rl_calld (ι := (Int) × Int × Int) (fun j => .int .i64 j.1) [_] [_, _] (fun j => [(_, 74, [_, .int .i64 j.2.1, .int .u64 j.2.2])]) (fun j => (0 ≤ j.1 ∧ (j.1 < _ ∨ j.1 = 0)) ∧ _ ≤ j.2.1 ∧ j.2.1 ≤ _ + 2) gw_none goes74 rfl (fun _ hq => (hq).pull 1 rfl) (fun w1 hp h0 => pick_c _ _ _ _ _ _ _ _ _ h0 (hcd.call hp (by simp)) (by omega) (by omega)) rfl (fun jp hjp => ?_)
  obtain ⟨vp, tp, sp⟩ := jp
  dsimp only at hjp
  try dsimp only
  refine rl_val gw_none (ov_quo rfl rfl (by omega) (by omega) (by omega)) rfl ?_
  refine rl_val gw_none (ov_add rfl rfl (by omega)) rfl ?_
  refine rl_val gw_none (ov_subh Try.underlying24 sz3 rfl rfl ((5 + vp / 11).toNat) (by omega) (by show _ ≤ 7; omega)) rfl ?_
  refine rl_calld (ι := (Int) × Int × Int) (fun j => .int .i64 j.1) [_, _] [_] (fun j => [(_, 74, [_, .int .i64 j.2.1, .int .u64 j.2.2])]) (fun j => ((-1000000) ≤ j.1 ∧ j.1 ≤ 1000000) ∧ _ ≤ j.2.1 ∧ j.2.1 ≤ _ + 2) gw_none goes73 rfl (fun _ hq => ((hq).pull 1 rfl).pull 1 rfl) (fun w1 hp h0 => among_c (-1000000) 1000000 _ _ _ _ _ _ _ _ _ _ _ _ h0 (hcd.call hp (by simp)) (by omega) (by first | rfl | decide | (simp [okIntsR]; done) | (simp [okIntsR]; omega) | (simp [okIntsR, Value.cells]; omega)) (by first | decide | (simp; done) | (simp; omega) | omega | (simp [Value.cells]; done) | (simp [Value.cells]; omega))) rfl (fun ja hja => ?_)
  obtain ⟨va, ta, sa⟩ := ja
  dsimp only at hja
  try dsimp only
  refine rl_val gw_none (ov_assign rfl) rfl ?_
  refine rl_val gw_none (ov_assign rfl) rfl ?_
  refine rl_val gw_none (ov_assign rfl) rfl ?_
  refine rl_nil ?_
  refine at_then ?_
  refine ct_ret ?_
  refine at_ret3 Try.results38 (ro_tmp rfl) (ro_tmp rfl) (ro_tmp rfl) (fun w1 hp => ?_)
  exact ⟨((bx, cx, px, xs), vf, va), ⟨⟨hslx, hx12, hGx⟩, hjf.1, by unfold In64; dsimp only; omega⟩, rfl, (Hp.sub (Hp.pull hp 1 rfl) (List.sublist_append_left [_] _))⟩

theorem DrawShowOne_c (a : Option Addr) (lc capc : Nat) (w : World) (hcd : CodeOk w [] a lc) : Calls Try.prog 44 ([.slice a lc capc]).toArray w (fun e w' => ∃ q : (Option Nat × Nat × List Value × List Exhibit) × Int, ((Sl 7 q.1.1 q.1.2.2.2.length q.1.2.1 (flat encExhibit q.1.2.2.2) q.1.2.2.1 ∧ q.1.2.2.2.length ≤ 12 ∧ (∀ y ∈ q.1.2.2.2, boundE y)) ∧ In64 q.2) ∧ e = .returned (.tuple #[sv q.1.1 q.1.2.2.2.length q.1.2.1, .int .i64 q.2]) ∧ Hp ⟨w, []⟩ [(q.1.1, 46, flat encExhibit q.1.2.2.2 ++ q.1.2.2.1)] w') := by
  refine calls_ct Try.func44 Try.ntmps44 rfl rfl ?_
  refine ct_seq ?_
  refine ct_reg ?_
  refine rl_val gw_none (ov_assign rfl) rfl ?_
  refine rl_val gw_none (ov_assign rfl) rfl ?_
  refine rl_nil ?_
  refine at_then ?_
  refine ct_seq ?_
  refine ct_reg ?_
  refine rl_val gw_none (ov_move rfl) rfl ?_
  refine rl_val gw_none (ov_build rfl (bu74_0 _ _ _)) rfl ?_
  refine rl_box rfl rfl (fun N1 => ?_)
  refine rl_val gw_none (ov_assign rfl) rfl ?_
  refine rl_nil ?_
  refine at_then ?_
  refine ct_seq ?_
  refine ct_reg ?_
  refine rl_val gw_none (ov_move rfl) rfl ?_
  refine rl_calld (ι := (Option Nat × Nat × List Value × List Exhibit) × Int × Int) (fun j => sv j.1.1 j.1.2.2.2.length j.1.2.1) [_] [] (fun j => [(_, 74, [_, .int .i64 j.2.1, .int .u64 j.2.2]), (j.1.1, 46, flat encExhibit j.1.2.2.2 ++ j.1.2.2.1)]) (fun j => (Sl 7 j.1.1 j.1.2.2.2.length j.1.2.1 (flat encExhibit j.1.2.2.2) j.1.2.2.1 ∧ j.1.2.2.2.length ≤ 12 ∧ (∀ y ∈ j.1.2.2.2, boundE y)) ∧ _ ≤ j.2.1 ∧ j.2.1 ≤ _ + 3000) gw_none goes62 rfl (fun _ hq => (hq).pull 0 rfl) (fun w1 hp h0 => exhibits_c _ _ _ _ _ _ _ _ h0 (hcd.call hp (by simp)) (by omega)) rfl (fun jx hjx => ?_)
  obtain ⟨⟨bx, cx, px, xs⟩, tx, sx⟩ := jx
  obtain ⟨⟨hslx, hx12, hGx⟩, htx⟩ := hjx
  dsimp only at hslx hx12 hGx htx
  try dsimp only
  refine rl_val gw_none (ov_assign rfl) rfl ?_
  refine rl_nil ?_
  refine at_then ?_
  refine ct_seq ?_
  refine ct_reg ?_
  refine rl_val gw_none (ov_move rfl) rfl ?_
  refine rl_val gw_none (ov_move rfl) rfl ?_
  refine rl_bslice Try.underlying24 ze3 sz3 rfl rfl rfl rfl rfl rfl (fun N2 => ?_)
  refine rl_val gw_none (ov_move rfl) rfl ?_
  refine rl_calld (ι := (Int) × Int × Int) (fun j => .int .i64 j.1) [_] [_, _] (fun j => [(_, 74, [_, .int .i64 j.2.1, .int .u64 j.2.2])]) (fun j => (0 ≤ j.1 ∧ (j.1 < _ ∨ j.1 = 0)) ∧ _ ≤ j.2.1 ∧ j.2.1 ≤ _ + 2) gw_none goes74 rfl (fun _ hq => (hq).pull 1 rfl) (fun w1 hp h0 => pick_c _ _ _ _ _ _ _ _ _ h0 (hcd.call hp (by simp)) (by omega) (by omega)) rfl (fun jp hjp => ?_)
  obtain ⟨vp, tp, sp⟩ := jp
  dsimp only at hjp
  try dsimp only
  refine rl_val gw_none (ov_quo rfl rfl (by omega) (by omega) (by omega)) rfl ?_
  refine rl_val gw_none (ov_add rfl rfl (by omega)) rfl ?_
  refine rl_val gw_none (ov_subh Try.underlying24 sz3 rfl rfl ((5 + vp / 11).toNat) (by omega) (by show _ ≤ 7; omega)) rfl ?_
  refine rl_calld (ι := (Int) × Int × Int) (fun j => .int .i64 j.1) [_, _] [_] (fun j => [(_, 74, [_, .int .i64 j.2.1, .int .u64 j.2.2])]) (fun j => ((-1000000) ≤ j.1 ∧ j.1 ≤ 1000000) ∧ _ ≤ j.2.1 ∧ j.2.1 ≤ _ + 2) gw_none goes73 rfl (fun _ hq => ((hq).pull 1 rfl).pull 1 rfl) (fun w1 hp h0 => among_c (-1000000) 1000000 _ _ _ _ _ _ _ _ _ _ _ _ h0 (hcd.call hp (by simp)) (by omega) (by first | rfl | decide | (simp [okIntsR]; done) | (simp [okIntsR]; omega) | (simp [okIntsR, Value.cells]; omega)) (by first | decide | (simp; done) | (simp; omega) | omega | (simp [Value.cells]; done) | (simp [Value.cells]; omega))) rfl (fun ja hja => ?_)
  obtain ⟨va, ta, sa⟩ := ja
  dsimp only at hja
  try dsimp only
  refine rl_val gw_none (ov_assign rfl) rfl ?_
  refine rl_val gw_none (ov_assign rfl) rfl ?_
  refine rl_nil ?_
  refine at_then ?_
  refine ct_ret ?_
  refine at_ret2 Try.results44 (ro_tmp rfl) (ro_tmp rfl) (fun w1 hp => ?_)
  exact ⟨((bx, cx, px, xs), va), ⟨⟨hslx, hx12, hGx⟩, by unfold In64; dsimp only; omega⟩, rfl, (Hp.sub (Hp.pull hp 1 rfl) (List.sublist_append_left [_] _))⟩
end Go.Proofs.Ytfelindekikaeaa
