import Derived.Test.YtfelindekikaeaaUc
import Derived.KernelRfl
set_option linter.unusedVariables false
set_option linter.unusedSimpArgs false
namespace Go.Proofs.Ytfelindekikaeaa
open Go Go.RowKit K
theorem DrawAreExhibits_c (a : Option Addr) (lc capc : Nat) (w : World) (hcd : CodeOk w [] a lc) : Calls Try.prog 61 ([.slice a lc capc]).toArray w (fun e w' => ∃ q : Option Nat × Nat × List Value × List Exhibit, (Sl 7 q.1 q.2.2.2.length q.2.1 (flat encExhibit q.2.2.2) q.2.2.1 ∧ q.2.2.2.length ≤ 12 ∧ (∀ y ∈ q.2.2.2, boundE y)) ∧ e = .returned (sv q.1 q.2.2.2.length q.2.1) ∧ Hp ⟨w, []⟩ [(q.1, 46, flat encExhibit q.2.2.2 ++ q.2.2.1)] w') := by
  refine calls_ct Try.func61 Try.ntmps61 rfl rfl ?_
  refine ct_seq ?_
  refine ct_reg ?_
  refine rl_val gw_none (ov_assign rfl) rfl ?_
  refine rl_nil ?_
  refine at_then ?_
  refine ct_seq ?_
  refine ct_reg ?_
  refine rl_val gw_none (ov_move rfl) rfl ?_
  refine rl_val gw_none (ov_build rfl (bu74_0 _ _ _)) rfl ?_
  refine rl_box rfl rfl (fun N1 => ?_)
  refine rl_val gw_none (ov_assign rfl) rfl ?_
  refine rl_nil ?_
  refine at_then ?_
  refine ct_seq ?_
  refine ct_reg ?_
  refine rl_val gw_none (ov_move rfl) rfl ?_
  refine rl_calld (ι := (Option Nat × Nat × List Value × List Exhibit) × Int × Int) (fun j => sv j.1.1 j.1.2.2.2.length j.1.2.1) [_] [] (fun j => [(_, 74, [_, .int .i64 j.2.1, .int .u64 j.2.2]), (j.1.1, 46, flat encExhibit j.1.2.2.2 ++ j.1.2.2.1)]) (fun j => (Sl 7 j.1.1 j.1.2.2.2.length j.1.2.1 (flat encExhibit j.1.2.2.2) j.1.2.2.1 ∧ j.1.2.2.2.length ≤ 12 ∧ (∀ y ∈ j.1.2.2.2, boundE y)) ∧ _ ≤ j.2.1 ∧ j.2.1 ≤ _ + 3000) gw_none goes62 rfl (fun _ hq => (hq).pull 0 rfl) (fun w1 hp h0 => exhibits_c _ _ _ _ _ _ _ _ h0 (hcd.call hp (by simp)) (by omega)) rfl (fun jx hjx => ?_)
  obtain ⟨⟨bx, cx, px, xs⟩, tx, sx⟩ := jx
  obtain ⟨⟨hslx, hx12, hGx⟩, htx⟩ := hjx
  dsimp only at hslx hx12 hGx htx
  try dsimp only
  refine rl_val gw_none (ov_assign rfl) rfl ?_
  refine rl_nil ?_
  refine at_then ?_
  refine ct_ret ?_
  refine at_ret1 Try.results61 (ro_tmp rfl) (fun w1 hp => ?_)
  exact ⟨(bx, cx, px, xs), ⟨hslx, hx12, hGx⟩, rfl, (Hp.sub (Hp.pull hp 1 rfl) (List.sublist_append_left [_] _))⟩

theorem DrawLandsByAge_c (a : Option Addr) (lc capc : Nat) (w : World) (hcd : CodeOk w [] a lc) : Calls Try.prog 22 ([.slice a lc capc]).toArray w (fun e w' => ∃ q : Option Nat × Nat × List Value × List Exhibit, (Sl 7 q.1 q.2.2.2.length q.2.1 (flat encExhibit q.2.2.2) q.2.2.1 ∧ q.2.2.2.length ≤ 12 ∧ (∀ y ∈ q.2.2.2, boundE y)) ∧ e = .returned (sv q.1 q.2.2.2.length q.2.1) ∧ Hp ⟨w, []⟩ [(q.1, 46, flat encExhibit q.2.2.2 ++ q.2.2.1)] w') := by
  refine calls_ct Try.func22 Try.ntmps22 rfl rfl ?_
  refine ct_seq ?_
  refine ct_reg ?_
  refine rl_val gw_none (ov_assign rfl) rfl ?_
  refine rl_nil ?_
  refine at_then ?_
  refine ct_seq ?_
  refine ct_reg ?_
  refine rl_val gw_none (ov_move rfl) rfl ?_
  refine rl_calle (ι := Option Nat × Nat × List Value × List Exhibit) (fun q => sv q.1 q.2.2.2.length q.2.1) (fun q => [(q.1, 46, flat encExhibit q.2.2.2 ++ q.2.2.1)]) (fun q => Sl 7 q.1 q.2.2.2.length q.2.1 (flat encExhibit q.2.2.2) q.2.2.1 ∧ q.2.2.2.length ≤ 12 ∧ (∀ y ∈ q.2.2.2, boundE y)) goes61 rfl (fun w1 hp => DrawAreExhibits_c _ _ _ _ (hcd.call hp (E := []) (by simp))) rfl (fun qd hqd => ?_)
  obtain ⟨bx, cx, px, xs⟩ := qd
  obtain ⟨hslx, hx12, hGx⟩ := hqd
  dsimp only at hslx hx12 hGx
  try dsimp only
  refine rl_val gw_none (ov_assign rfl) rfl ?_
  refine rl_nil ?_
  refine at_then ?_
  refine ct_ret ?_
  refine at_ret1 Try.results22 (ro_tmp rfl) (fun w1 hp => ?_)
  exact ⟨(bx, cx, px, xs), ⟨hslx, hx12, hGx⟩, rfl, (Hp.sub (Hp.pull hp 0 rfl) (List.sublist_append_left [_] _))⟩

theorem DrawOldestIn_c (a : Option Addr) (lc capc : Nat) (w : World) (hcd : CodeOk w [] a lc) : Calls Try.prog 26 ([.slice a lc capc]).toArray w (fun e w' => ∃ q : (Option Nat × Nat × List Value × List Exhibit) × ByteArray, ((Sl 7 q.1.1 q.1.2.2.2.length q.1.2.1 (flat encExhibit q.1.2.2.2) q.1.2.2.1 ∧ q.1.2.2.2.length ≤ 12 ∧ (∀ y ∈ q.1.2.2.2, boundE y)) ∧ q.2.size ≤ 1000) ∧ e = .returned (.tuple #[sv q.1.1 q.1.2.2.2.length q.1.2.1, .string q.2]) ∧ Hp ⟨w, []⟩ [(q.1.1, 46, flat encExhibit q.1.2.2.2 ++ q.1.2.2.1)] w') := by
  refine calls_ct Try.func26 Try.ntmps26 rfl rfl ?_
  refine ct_seq ?_
  refine ct_reg ?_
  refine rl_val gw_none (ov_assign rfl) rfl ?_
  refine rl_val gw_none (ov_assign rfl) rfl ?_
  refine rl_nil ?_
  refine at_then ?_
  refine ct_seq ?_
  refine ct_reg ?_
  refine rl_val gw_none (ov_move rfl) rfl ?_
  refine rl_val gw_none (ov_build rfl (bu74_0 _ _ _)) rfl ?_
  refine rl_box rfl rfl (fun N1 => ?_)
  refine rl_val gw_none (ov_assign rfl) rfl ?_
  refine rl_nil ?_
  refine at_then ?_
  refine ct_seq ?_
  refine ct_reg ?_
  refine rl_val gw_none (ov_move rfl) rfl ?_
  refine rl_calld (ι := (Option Nat × Nat × List Value × List Exhibit) × Int × Int) (fun j => sv j.1.1 j.1.2.2.2.length j.1.2.1) [_] [] (fun j => [(_, 74, [_, .int .i64 j.2.1, .int .u64 j.2.2]), (j.1.1, 46, flat encExhibit j.1.2.2.2 ++ j.1.2.2.1)]) (fun j => (Sl 7 j.1.1 j.1.2.2.2.length j.1.2.1 (flat encExhibit j.1.2.2.2) j.1.2.2.1 ∧ j.1.2.2.2.length ≤ 12 ∧ (∀ y ∈ j.1.2.2.2, boundE y)) ∧ _ ≤ j.2.1 ∧ j.2.1 ≤ _ + 3000) gw_none goes62 rfl (fun _ hq => (hq).pull 0 rfl) (fun w1 hp h0 => exhibits_c _ _ _ _ _ _ _ _ h0 (hcd.call hp (by simp)) (by omega)) rfl (fun jx hjx => ?_)
  obtain ⟨⟨bx, cx, px, xs⟩, tx, sx⟩ := jx
  obtain ⟨⟨hslx, hx12, hGx⟩, htx⟩ := hjx
  dsimp only at hslx hx12 hGx htx
  try dsimp only
  refine rl_val gw_none (ov_assign rfl) rfl ?_
  refine rl_nil ?_
  refine at_then ?_
  refine ct_seq ?_
  refine ct_reg ?_
  refine rl_val gw_none (ov_move rfl) rfl ?_
  refine rl_val gw_none (ov_move rfl) rfl ?_
  refine rl_bslice Try.underlying34 ze9 sz9 rfl rfl rfl rfl rfl rfl (fun N2 => ?_)
  refine rl_calld (ι := (ByteArray) × Int × Int) (fun j => .string j.1) [_, _] [_] (fun j => [(_, 74, [_, .int .i64 j.2.1, .int .u64 j.2.2])]) (fun j => (j.1.size ≤ 1000) ∧ _ ≤ j.2.1 ∧ j.2.1 ≤ _ + 2) gw_none goes63 rfl (fun _ hq => ((hq).pull 0 rfl).pull 1 rfl) (fun w1 hp h0 => of_c _ _ _ _ _ _ _ _ _ _ _ _ h0 (hcd.call hp (by simp)) (by omega) (by first | rfl | decide) (by first | decide | omega)) rfl (fun jl hjl => ?_)
  obtain ⟨vl, tl, sl⟩ := jl
  dsimp only at hjl
  try dsimp only
  refine rl_val gw_none (ov_assign rfl) rfl ?_
  refine rl_val gw_none (ov_assign rfl) rfl ?_
  refine rl_nil ?_
  refine at_then ?_
  refine ct_ret ?_
  refine at_ret2 Try.results26 (ro_tmp rfl) (ro_tmp rfl) (fun w1 hp => ?_)
  exact ⟨((bx, cx, px, xs), vl), ⟨⟨hslx, hx12, hGx⟩, by dsimp only; omega⟩, rfl, (Hp.sub (Hp.pull hp 1 rfl) (List.sublist_append_left [_] _))⟩

theorem DrawIsExhibit_c (a : Option Addr) (lc capc : Nat) (w : World) (hcd : CodeOk w [] a lc) : Calls Try.prog 64 ([.slice a lc capc]).toArray w (fun e w' => ∃ q : Exhibit, boundE q ∧ e = .returned (.agg (encExhibit q).toArray) ∧ Ext w w') := by
  refine calls_ct Try.func64 Try.ntmps64 rfl rfl ?_
  refine ct_seq ?_
  refine ct_reg ?_
  refine rl_alloc ze46 rfl (fun N1 => ?_)
  refine rl_nil ?_
  refine at_then ?_
  refine ct_seq ?_
  refine ct_reg ?_
  refine rl_val gw_none (ov_move rfl) rfl ?_
  refine rl_val gw_none (ov_build rfl (bu74_0 _ _ _)) rfl ?_
  refine rl_box rfl rfl (fun N2 => ?_)
  refine rl_val gw_none (ov_assign rfl) rfl ?_
  refine rl_nil ?_
  refine at_then ?_
  refine ct_seq ?_
  refine ct_reg ?_
  refine rl_val gw_none (ov_move rfl) rfl ?_
  refine rl_val gw_none (ov_move rfl) rfl ?_
  refine rl_bslice Try.underlying24 ze3 sz3 rfl rfl rfl rfl rfl rfl (fun N3 => ?_)
  refine rl_calld (ι := (Int) × Int × Int) (fun j => .int .i64 j.1) [_, _] [_] (fun j => [(_, 74, [_, .int .i64 j.2.1, .int .u64 j.2.2])]) (fun j => ((-1000000) ≤ j.1 ∧ j.1 ≤ 1000000) ∧ _ ≤ j.2.1 ∧ j.2.1 ≤ _ + 2) gw_none goes73 rfl (fun _ hq => ((hq).pull 0 rfl).pull 1 rfl) (fun w1 hp h0 => among_c (-1000000) 1000000 _ _ _ _ _ _ _ _ _ _ _ _ h0 (hcd.call hp (by simp)) (by omega) (by first | rfl | decide | (simp [okIntsR]; done) | (simp [okIntsR]; omega) | (simp [okIntsR, Value.cells]; omega)) (by first | decide | (simp; done) | (simp; omega) | omega | (simp [Value.cells]; done) | (simp [Value.cells]; omega))) rfl (fun ja hja => ?_)
  obtain ⟨va, ta, sa⟩ := ja
  dsimp only at hja
  try dsimp only
  refine rl_calld (ι := (Exhibit) × Int × Int) (fun j => .agg (encExhibit j.1).toArray) [_] [_] (fun j => [(_, 74, [_, .int .i64 j.2.1, .int .u64 j.2.2])]) (fun j => (boundE j.1) ∧ _ ≤ j.2.1 ∧ j.2.1 ≤ _ + 100) gw_none goes79 rfl (fun _ hq => (hq).pull 0 rfl) (fun w1 hp h0 => exhibit_c _ _ _ _ _ _ _ _ _ h0 (hcd.call hp (by simp)) (by omega) (by omega)) rfl (fun jE hjE => ?_)
  obtain ⟨vE, tE, sE⟩ := jE
  dsimp only at hjE
  try dsimp only
  refine rl_store [_] sz46 rfl rfl rfl rfl rfl (Nat.le_of_ble_eq_true rfl) ?_
  refine rl_nil ?_
  refine at_then ?_
  refine ct_ret ?_
  refine at_ret1 Try.results64 (ro_cell 1 ag46 rfl rfl rfl) (fun w1 hp => ?_)
  exact ⟨vE, hjE.1, rfl, hp.ext0⟩

theorem DrawGreatestShown_c (a : Option Addr) (lc capc : Nat) (w : World) (hcd : CodeOk w [] a lc) : Calls Try.prog 28 ([.slice a lc capc]).toArray w (fun e w' => ∃ q : Exhibit, boundE q ∧ e = .returned (.agg (encExhibit q).toArray) ∧ Ext w w') := by
  refine calls_ct Try.func28 Try.ntmps28 rfl rfl ?_
  refine ct_seq ?_
  refine ct_reg ?_
  refine rl_alloc ze46 rfl (fun N1 => ?_)
  refine rl_nil ?_
  refine at_then ?_
  refine ct_seq ?_
  refine ct_reg ?_
  refine rl_val gw_none (ov_move rfl) rfl ?_
  refine rl_callx (ι := Exhibit) (fun q => .agg (encExhibit q).toArray) (fun q => boundE q) gw_none goes64 rfl (fun w1 hp => DrawIsExhibit_c _ _ _ _ (hcd.call hp (E := []) (by simp))) rfl (fun xq hxbq => ?_)
  refine rl_store [] sz46 rfl rfl rfl rfl rfl (Nat.le_of_ble_eq_true rfl) ?_
  refine rl_nil ?_
  refine at_then ?_
  refine ct_ret ?_
  refine at_ret1 Try.results28 (ro_cell 0 ag46 rfl rfl rfl) (fun w1 hp => ?_)
  exact ⟨xq, hxbq, rfl, hp.ext0⟩

theorem DrawExhibitText_c (a : Option Addr) (lc capc : Nat) (w : World) (hcd : CodeOk w [] a lc) : Calls Try.prog 32 ([.slice a lc capc]).toArray w (fun e w' => ∃ q : Exhibit, boundE q ∧ e = .returned (.agg (encExhibit q).toArray) ∧ Ext w w') := by
  refine calls_ct Try.func32 Try.ntmps32 rfl rfl ?_
  refine ct_seq ?_
  refine ct_reg ?_
  refine rl_alloc ze46 rfl (fun N1 => ?_)
  refine rl_nil ?_
  refine at_then ?_
  refine ct_seq ?_
  refine ct_reg ?_
  refine rl_val gw_none (ov_move rfl) rfl ?_
  refine rl_callx (ι := Exhibit) (fun q => .agg (encExhibit q).toArray) (fun q => boundE q) gw_none goes64 rfl (fun w1 hp => DrawIsExhibit_c _ _ _ _ (hcd.call hp (E := []) (by simp))) rfl (fun xq hxbq => ?_)
  refine rl_store [] sz46 rfl rfl rfl rfl rfl (Nat.le_of_ble_eq_true rfl) ?_
  refine rl_nil ?_
  refine at_then ?_
  refine ct_ret ?_
  refine at_ret1 Try.results32 (ro_cell 0 ag46 rfl rfl rfl) (fun w1 hp => ?_)
  exact ⟨xq, hxbq, rfl, hp.ext0⟩
end Go.Proofs.Ytfelindekikaeaa
