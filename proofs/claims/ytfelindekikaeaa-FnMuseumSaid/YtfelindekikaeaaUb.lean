import Derived.Test.YtfelindekikaeaaUa
import Derived.Test.YtfelindekikaeaaTa
import Derived.KernelRfl
set_option linter.unusedVariables false
set_option linter.unusedSimpArgs false
namespace Go.Proofs.Ytfelindekikaeaa
open Go Go.RowKit K
def boundE (x : Exhibit) : Prop := (-1000000 ≤ x.id ∧ x.id ≤ 1000000) ∧ x.land.size ≤ 1000 ∧ (-1000000 ≤ x.made ∧ x.made ≤ 1000000) ∧ (-1000000 ≤ x.upper ∧ x.upper ≤ 1000000) ∧ (-1000000 ≤ x.lower ∧ x.lower ≤ 1000000) ∧ (-1000000 ≤ x.rods ∧ x.rods ≤ 1000000) ∧ (-1000000 ≤ x.cs ∧ x.cs ≤ 1000000)
theorem boundE.g {x : Exhibit} (h : boundE x) : GExhibit x := by unfold boundE at h; unfold GExhibit In64 maxLen; omega
theorem boundE_all {xs : List Exhibit} (h : ∀ y ∈ xs, boundE y) : ∀ y ∈ xs, GExhibit y := fun y hy => (h y hy).g
theorem boundE_snoc {xs : List Exhibit} {z : Exhibit} (h : ∀ y ∈ xs, boundE y) (hz : boundE z) : ∀ y ∈ xs ++ [z], boundE y := fun y hy => by
  rcases List.mem_append.1 hy with hy | hy
  · exact h y hy
  · obtain rfl := List.mem_singleton.1 hy; exact hz
theorem boundE_set {xs : List Exhibit} {z : Exhibit} (h : ∀ y ∈ xs, boundE y) (hz : boundE z) (k : Nat) : ∀ y ∈ xs.set k z, boundE y := fun y hy => by
  rcases List.mem_or_eq_of_mem_set hy with hy | rfl
  · exact h y hy
  · exact hz

theorem exhibit_c (i : Int) (bc : Nat) (a : Option Addr) (lc capc : Nat) (at_ s : Int) (D : List Nat) (w : World) (h0 : Hp ⟨w, D⟩ [(some bc, 74, [.slice a lc capc, .int .i64 at_, .int .u64 s])] w) (hcd : CodeOk w D a lc) (hat : 0 ≤ at_ ∧ at_ ≤ 1500000000) (hi : -1000000 ≤ i ∧ i ≤ 1000000) : Calls Try.prog 79 ([.pointer (some ⟨bc, 0, none⟩), .int .i64 i]).toArray w (fun e w' => ∃ j : (Exhibit) × Int × Int, ((boundE j.1) ∧ at_ ≤ j.2.1 ∧ j.2.1 ≤ at_ + 100) ∧ e = .returned (.agg (encExhibit j.1).toArray) ∧ Hp ⟨w, D⟩ [(some bc, 74, [.slice a lc capc, .int .i64 j.2.1, .int .u64 j.2.2])] w') := by
  refine calls_ctds h0 Try.func79 Try.ntmps79 rfl rfl ?_
  refine ct_seq ?_
  refine ct_reg ?_
  refine rl_alloc ze46 rfl (fun N1 => ?_)
  refine rl_nil ?_
  refine at_then ?_
  refine ct_seq ?_
  refine ct_reg ?_
  refine rl_val gw_none (ov_move rfl) rfl ?_
  refine rl_val gw_none (ov_move rfl) rfl ?_
  refine rl_bslice Try.underlying34 ze9 sz9 rfl rfl rfl rfl rfl rfl (fun N2 => ?_)
  refine rl_calld (ι := (ByteArray) × Int × Int) (fun j => .string j.1) [_, _] [_] (fun j => [(_, 74, [_, .int .i64 j.2.1, .int .u64 j.2.2])]) (fun j => (j.1.size ≤ 1000) ∧ _ ≤ j.2.1 ∧ j.2.1 ≤ _ + 2) gw_none goes63 rfl (fun _ hq => ((hq).pull 0 rfl).pull 2 rfl) (fun w1 hp h0 => of_c _ _ _ _ _ _ _ _ _ _ _ _ h0 (hcd.call hp (by simp)) (by omega) (by first | rfl | decide) (by first | decide | omega)) rfl (fun jn hjn => ?_)
  obtain ⟨vn, tn, sn⟩ := jn
  dsimp only at hjn
  try dsimp only
  refine rl_val gw_none (ov_move rfl) rfl ?_
  refine rl_bslice Try.underlying24 ze3 sz3 rfl rfl rfl rfl rfl rfl (fun N3 => ?_)
  refine rl_calld (ι := (Int) × Int × Int) (fun j => .int .i64 j.1) [_, _] [_] (fun j => [(_, 74, [_, .int .i64 j.2.1, .int .u64 j.2.2])]) (fun j => ((-1000000) ≤ j.1 ∧ j.1 ≤ 1000000) ∧ _ ≤ j.2.1 ∧ j.2.1 ≤ _ + 2) gw_none goes73 rfl (fun _ hq => ((hq).pull 0 rfl).pull 1 rfl) (fun w1 hp h0 => among_c (-1000000) 1000000 _ _ _ _ _ _ _ _ _ _ _ _ h0 (hcd.call hp (by simp)) (by omega) (by first | rfl | decide | (simp [okIntsR]; done) | (simp [okIntsR]; omega) | (simp [okIntsR, Value.cells]; omega)) (by first | decide | (simp; done) | (simp; omega) | omega | (simp [Value.cells]; done) | (simp [Value.cells]; omega))) rfl (fun jm hjm => ?_)
  obtain ⟨vm, tm, sm⟩ := jm
  dsimp only at hjm
  try dsimp only
  refine rl_val gw_none (ov_move rfl) rfl ?_
  refine rl_bslice Try.underlying24 ze3 sz3 rfl rfl rfl rfl rfl rfl (fun N4 => ?_)
  refine rl_calld (ι := (Int) × Int × Int) (fun j => .int .i64 j.1) [_, _] [_] (fun j => [(_, 74, [_, .int .i64 j.2.1, .int .u64 j.2.2])]) (fun j => ((-1000000) ≤ j.1 ∧ j.1 ≤ 1000000) ∧ _ ≤ j.2.1 ∧ j.2.1 ≤ _ + 2) gw_none goes73 rfl (fun _ hq => ((hq).pull 0 rfl).pull 1 rfl) (fun w1 hp h0 => among_c (-1000000) 1000000 _ _ _ _ _ _ _ _ _ _ _ _ h0 (hcd.call hp (by simp)) (by omega) (by first | rfl | decide | (simp [okIntsR]; done) | (simp [okIntsR]; omega) | (simp [okIntsR, Value.cells]; omega)) (by first | decide | (simp; done) | (simp; omega) | omega | (simp [Value.cells]; done) | (simp [Value.cells]; omega))) rfl (fun ju hju => ?_)
  obtain ⟨vu, tu, su⟩ := ju
  dsimp only at hju
  try dsimp only
  refine rl_val gw_none (ov_move rfl) rfl ?_
  refine rl_bslice Try.underlying24 ze3 sz3 rfl rfl rfl rfl rfl rfl (fun N5 => ?_)
  refine rl_calld (ι := (Int) × Int × Int) (fun j => .int .i64 j.1) [_, _] [_] (fun j => [(_, 74, [_, .int .i64 j.2.1, .int .u64 j.2.2])]) (fun j => ((-1000000) ≤ j.1 ∧ j.1 ≤ 1000000) ∧ _ ≤ j.2.1 ∧ j.2.1 ≤ _ + 2) gw_none goes73 rfl (fun _ hq => ((hq).pull 0 rfl).pull 1 rfl) (fun w1 hp h0 => among_c (-1000000) 1000000 _ _ _ _ _ _ _ _ _ _ _ _ h0 (hcd.call hp (by simp)) (by omega) (by first | rfl | decide | (simp [okIntsR]; done) | (simp [okIntsR]; omega) | (simp [okIntsR, Value.cells]; omega)) (by first | decide | (simp; done) | (simp; omega) | omega | (simp [Value.cells]; done) | (simp [Value.cells]; omega))) rfl (fun jl hjl => ?_)
  obtain ⟨vl, tl, sl⟩ := jl
  dsimp only at hjl
  try dsimp only
  refine rl_val gw_none (ov_move rfl) rfl ?_
  refine rl_bslice Try.underlying24 ze3 sz3 rfl rfl rfl rfl rfl rfl (fun N6 => ?_)
  refine rl_calld (ι := (Int) × Int × Int) (fun j => .int .i64 j.1) [_, _] [_] (fun j => [(_, 74, [_, .int .i64 j.2.1, .int .u64 j.2.2])]) (fun j => ((-1000000) ≤ j.1 ∧ j.1 ≤ 1000000) ∧ _ ≤ j.2.1 ∧ j.2.1 ≤ _ + 2) gw_none goes73 rfl (fun _ hq => ((hq).pull 0 rfl).pull 1 rfl) (fun w1 hp h0 => among_c (-1000000) 1000000 _ _ _ _ _ _ _ _ _ _ _ _ h0 (hcd.call hp (by simp)) (by omega) (by first | rfl | decide | (simp [okIntsR]; done) | (simp [okIntsR]; omega) | (simp [okIntsR, Value.cells]; omega)) (by first | decide | (simp; done) | (simp; omega) | omega | (simp [Value.cells]; done) | (simp [Value.cells]; omega))) rfl (fun jr hjr => ?_)
  obtain ⟨vr, tr, sr⟩ := jr
  dsimp only at hjr
  try dsimp only
  refine rl_val gw_none (ov_move rfl) rfl ?_
  refine rl_bslice Try.underlying24 ze3 sz3 rfl rfl rfl rfl rfl rfl (fun N7 => ?_)
  refine rl_calld (ι := (Int) × Int × Int) (fun j => .int .i64 j.1) [_, _] [_] (fun j => [(_, 74, [_, .int .i64 j.2.1, .int .u64 j.2.2])]) (fun j => ((-1000000) ≤ j.1 ∧ j.1 ≤ 1000000) ∧ _ ≤ j.2.1 ∧ j.2.1 ≤ _ + 2) gw_none goes73 rfl (fun _ hq => ((hq).pull 0 rfl).pull 1 rfl) (fun w1 hp h0 => among_c (-1000000) 1000000 _ _ _ _ _ _ _ _ _ _ _ _ h0 (hcd.call hp (by simp)) (by omega) (by first | rfl | decide | (simp [okIntsR]; done) | (simp [okIntsR]; omega) | (simp [okIntsR, Value.cells]; omega)) (by first | decide | (simp; done) | (simp; omega) | omega | (simp [Value.cells]; done) | (simp [Value.cells]; omega))) rfl (fun jc hjc => ?_)
  obtain ⟨vc, tc, sc⟩ := jc
  dsimp only at hjc
  try dsimp only
  refine rl_val gw_none (ov_build rfl (bu46_0_1_2_3_4_5_6 _ _ _ _ _ _ _)) rfl ?_
  refine rl_alloc ze46 rfl (fun N8 => ?_)
  refine rl_store [] sz46 rfl rfl rfl rfl rfl (Nat.le_of_ble_eq_true rfl) ?_
  refine rl_mem (fun _ hq => hq.cong (congrArg (fun x => (_, _, x) :: _) ((show _ = encExhibit (⟨i, vn, vm, vu, vl, vr, vc⟩ : Exhibit) from rfl)))) ?_
  refine rl_nil ?_
  refine at_then ?_
  refine ct_seq ?_
  refine ct_seq ?_
  refine ct_reg ?_
  refine rl_val gw_none (ov_move rfl) rfl ?_
  refine rl_calld (ι := (Int) × Int × Int) (fun j => .int .i64 j.1) [_] [_, _] (fun j => [(_, 74, [_, .int .i64 j.2.1, .int .u64 j.2.2])]) (fun j => (0 ≤ j.1 ∧ (j.1 < _ ∨ j.1 = 0)) ∧ _ ≤ j.2.1 ∧ j.2.1 ≤ _ + 2) gw_none goes74 rfl (fun _ hq => (hq).pull 1 rfl) (fun w1 hp h0 => pick_c _ _ _ _ _ _ _ _ _ h0 (hcd.call hp (by simp)) (by omega) (by omega)) rfl (fun jp hjp => ?_)
  obtain ⟨vp, tp, sp⟩ := jp
  dsimp only at hjp
  try dsimp only
  refine rl_nil ?_
  refine at_then ?_
  refine ct_block ?_
  refine ct_seq ?_
  refine ct_reg ?_
  refine rl_val gw_none (ov_eql rfl rfl) rfl ?_
  refine rl_val gw_none (ov_assign rfl) rfl ?_
  refine rl_nil ?_
  refine at_then ?_
  first | refine ct_dec rfl (fun h1 => ?_) (fun h1 => ?_) | refine ct_ndec rfl (fun h1 => ?_) (fun h1 => ?_) | refine ct_eq rfl (fun h1 => ?_) (fun h1 => ?_) | refine ct_ne rfl (fun h1 => ?_) (fun h1 => ?_) | refine ct_not rfl (fun h1 => ?_) (fun h1 => ?_) | refine ct_cond rfl (fun h1 => ?_) (fun h1 => ?_)
  ·
    refine ct_reg ?_
    refine rl_val gw_none (ov_move rfl) rfl ?_
    refine rl_bslice Try.underlying24 ze3 sz3 rfl rfl rfl rfl rfl rfl (fun N9 => ?_)
    refine rl_calld (ι := (Int) × Int × Int) (fun j => .int .i64 j.1) [_, _] [_, _] (fun j => [(_, 74, [_, .int .i64 j.2.1, .int .u64 j.2.2])]) (fun j => ((-1000000) ≤ j.1 ∧ j.1 ≤ 1000000) ∧ _ ≤ j.2.1 ∧ j.2.1 ≤ _ + 2) gw_none goes73 rfl (fun _ hq => ((hq).pull 0 rfl).pull 1 rfl) (fun w1 hp h0 => among_c (-1000000) 1000000 _ _ _ _ _ _ _ _ _ _ _ _ h0 (hcd.call hp (by simp)) (by omega) (by first | rfl | decide | (simp [okIntsR]; done) | (simp [okIntsR]; omega) | (simp [okIntsR, Value.cells]; omega)) (by first | decide | (simp; done) | (simp; omega) | omega | (simp [Value.cells]; done) | (simp [Value.cells]; omega))) rfl (fun jx hjx => ?_)
    obtain ⟨vx, tx, sx⟩ := jx
    dsimp only at hjx
    try dsimp only
    refine rl_val gw_none (ov_field fo46_0 rfl) rfl ?_
    refine rl_store [_] sz3 rfl rfl rfl rfl rfl (Nat.le_of_ble_eq_true rfl) ?_
    refine rl_mem (fun _ hq => hq.cong (congrArg (fun x => _ :: (_, _, x) :: _) ((show _ = encExhibit (⟨vx, vn, vm, vu, vl, vr, vc⟩ : Exhibit) from rfl)))) ?_
    refine rl_nil ?_
    refine at_block ?_
    refine at_then ?_
    refine ct_seq ?_
    refine ct_reg ?_
    first | refine rl_val gw_none (ov_loadall 1 ag46 rfl rfl rfl) rfl ?_ | refine rl_val gw_none (ov_loadp 1 ag46 rfl rfl (vs := [_, _, _, _, _, _, _]) rfl rfl) rfl ?_ | refine rl_val gw_none (ov_loada 1 ag46 rfl rfl rfl (by assumption)) rfl ?_
    refine rl_store [_, _] sz46 rfl rfl rfl rfl rfl (Nat.le_of_ble_eq_true rfl) ?_
    refine rl_mem (fun _ hq => hq.cong (congrArg (fun x => _ :: _ :: (_, _, x) :: _) ((show _ = encExhibit (⟨vx, vn, vm, vu, vl, vr, vc⟩ : Exhibit) from rfl)))) ?_
    refine rl_nil ?_
    refine at_then ?_
    refine ct_ret ?_
    refine at_ret1 Try.results79 (ro_cell 2 ag46 rfl rfl rfl) (fun w1 hp => ?_)
    exact ⟨((⟨vx, vn, vm, vu, vl, vr, vc⟩ : Exhibit), _, _), ⟨by unfold boundE; dsimp only; omega, by dsimp only; omega, by dsimp only; omega⟩, rfl, (Hp.sub (Hp.pull hp 0 rfl) (List.sublist_append_left [_] _))⟩
  ·
    refine ct_seq ?_
    refine ct_reg ?_
    refine rl_val gw_none (ov_eql rfl rfl) rfl ?_
    refine rl_val gw_none (ov_assign rfl) rfl ?_
    refine rl_nil ?_
    refine at_then ?_
    first | refine ct_dec rfl (fun h2 => ?_) (fun h2 => ?_) | refine ct_ndec rfl (fun h2 => ?_) (fun h2 => ?_) | refine ct_eq rfl (fun h2 => ?_) (fun h2 => ?_) | refine ct_ne rfl (fun h2 => ?_) (fun h2 => ?_) | refine ct_not rfl (fun h2 => ?_) (fun h2 => ?_) | refine ct_cond rfl (fun h2 => ?_) (fun h2 => ?_)
    ·
      refine ct_reg ?_
      refine rl_val gw_none (ov_move rfl) rfl ?_
      refine rl_bslice Try.underlying34 ze9 sz9 rfl rfl rfl rfl rfl rfl (fun N10 => ?_)
      refine rl_calld (ι := (ByteArray) × Int × Int) (fun j => .string j.1) [_, _] [_, _] (fun j => [(_, 74, [_, .int .i64 j.2.1, .int .u64 j.2.2])]) (fun j => (j.1.size ≤ 1000) ∧ _ ≤ j.2.1 ∧ j.2.1 ≤ _ + 2) gw_none goes63 rfl (fun _ hq => ((hq).pull 0 rfl).pull 1 rfl) (fun w1 hp h0 => of_c _ _ _ _ _ _ _ _ _ _ _ _ h0 (hcd.call hp (by simp)) (by omega) (by first | rfl | decide) (by first | decide | omega)) rfl (fun js hjs => ?_)
      obtain ⟨vs, ts, ss⟩ := js
      dsimp only at hjs
      try dsimp only
      refine rl_val gw_none (ov_field fo46_1 rfl) rfl ?_
      refine rl_store [_] sz9 rfl rfl rfl rfl rfl (Nat.le_of_ble_eq_true rfl) ?_
      refine rl_mem (fun _ hq => hq.cong (congrArg (fun x => _ :: (_, _, x) :: _) ((show _ = encExhibit (⟨i, vs, vm, vu, vl, vr, vc⟩ : Exhibit) from rfl)))) ?_
      refine rl_nil ?_
      refine at_block ?_
      refine at_then ?_
      refine ct_seq ?_
      refine ct_reg ?_
      first | refine rl_val gw_none (ov_loadall 1 ag46 rfl rfl rfl) rfl ?_ | refine rl_val gw_none (ov_loadp 1 ag46 rfl rfl (vs := [_, _, _, _, _, _, _]) rfl rfl) rfl ?_ | refine rl_val gw_none (ov_loada 1 ag46 rfl rfl rfl (by assumption)) rfl ?_
      refine rl_store [_, _] sz46 rfl rfl rfl rfl rfl (Nat.le_of_ble_eq_true rfl) ?_
      refine rl_mem (fun _ hq => hq.cong (congrArg (fun x => _ :: _ :: (_, _, x) :: _) ((show _ = encExhibit (⟨i, vs, vm, vu, vl, vr, vc⟩ : Exhibit) from rfl)))) ?_
      refine rl_nil ?_
      refine at_then ?_
      refine ct_ret ?_
      refine at_ret1 Try.results79 (ro_cell 2 ag46 rfl rfl rfl) (fun w1 hp => ?_)
      exact ⟨((⟨i, vs, vm, vu, vl, vr, vc⟩ : Exhibit), _, _), ⟨by unfold boundE; dsimp only; omega, by dsimp only; omega, by dsimp only; omega⟩, rfl, (Hp.sub (Hp.pull hp 0 rfl) (List.sublist_append_left [_] _))⟩
    ·
      refine ct_seq ?_
      refine ct_reg ?_
      refine rl_val gw_none (ov_eql rfl rfl) rfl ?_
      refine rl_val gw_none (ov_assign rfl) rfl ?_
      refine rl_nil ?_
      refine at_then ?_
      first | refine ct_dec rfl (fun h3 => ?_) (fun h3 => ?_) | refine ct_ndec rfl (fun h3 => ?_) (fun h3 => ?_) | refine ct_eq rfl (fun h3 => ?_) (fun h3 => ?_) | refine ct_ne rfl (fun h3 => ?_) (fun h3 => ?_) | refine ct_not rfl (fun h3 => ?_) (fun h3 => ?_) | refine ct_cond rfl (fun h3 => ?_) (fun h3 => ?_)
      ·
        refine ct_reg ?_
        refine rl_val gw_none (ov_move rfl) rfl ?_
        refine rl_bslice Try.underlying24 ze3 sz3 rfl rfl rfl rfl rfl rfl (fun N11 => ?_)
        refine rl_calld (ι := (Int) × Int × Int) (fun j => .int .i64 j.1) [_, _] [_, _] (fun j => [(_, 74, [_, .int .i64 j.2.1, .int .u64 j.2.2])]) (fun j => ((-1000000) ≤ j.1 ∧ j.1 ≤ 1000000) ∧ _ ≤ j.2.1 ∧ j.2.1 ≤ _ + 2) gw_none goes73 rfl (fun _ hq => ((hq).pull 0 rfl).pull 1 rfl) (fun w1 hp h0 => among_c (-1000000) 1000000 _ _ _ _ _ _ _ _ _ _ _ _ h0 (hcd.call hp (by simp)) (by omega) (by first | rfl | decide | (simp [okIntsR]; done) | (simp [okIntsR]; omega) | (simp [okIntsR, Value.cells]; omega)) (by first | decide | (simp; done) | (simp; omega) | omega | (simp [Value.cells]; done) | (simp [Value.cells]; omega))) rfl (fun jx hjx => ?_)
        obtain ⟨vx, tx, sx⟩ := jx
        dsimp only at hjx
        try dsimp only
        refine rl_val gw_none (ov_field fo46_2 rfl) rfl ?_
        refine rl_store [_] sz3 rfl rfl rfl rfl rfl (Nat.le_of_ble_eq_true rfl) ?_
        refine rl_mem (fun _ hq => hq.cong (congrArg (fun x => _ :: (_, _, x) :: _) ((show _ = encExhibit (⟨i, vn, vx, vu, vl, vr, vc⟩ : Exhibit) from rfl)))) ?_
        refine rl_nil ?_
        refine at_block ?_
        refine at_then ?_
        refine ct_seq ?_
        refine ct_reg ?_
        first | refine rl_val gw_none (ov_loadall 1 ag46 rfl rfl rfl) rfl ?_ | refine rl_val gw_none (ov_loadp 1 ag46 rfl rfl (vs := [_, _, _, _, _, _, _]) rfl rfl) rfl ?_ | refine rl_val gw_none (ov_loada 1 ag46 rfl rfl rfl (by assumption)) rfl ?_
        refine rl_store [_, _] sz46 rfl rfl rfl rfl rfl (Nat.le_of_ble_eq_true rfl) ?_
        refine rl_mem (fun _ hq => hq.cong (congrArg (fun x => _ :: _ :: (_, _, x) :: _) ((show _ = encExhibit (⟨i, vn, vx, vu, vl, vr, vc⟩ : Exhibit) from rfl)))) ?_
        refine rl_nil ?_
        refine at_then ?_
        refine ct_ret ?_
        refine at_ret1 Try.results79 (ro_cell 2 ag46 rfl rfl rfl) (fun w1 hp => ?_)
        exact ⟨((⟨i, vn, vx, vu, vl, vr, vc⟩ : Exhibit), _, _), ⟨by unfold boundE; dsimp only; omega, by dsimp only; omega, by dsimp only; omega⟩, rfl, (Hp.sub (Hp.pull hp 0 rfl) (List.sublist_append_left [_] _))⟩
      ·
        refine ct_seq ?_
        refine ct_reg ?_
        refine rl_val gw_none (ov_eql rfl rfl) rfl ?_
        refine rl_val gw_none (ov_assign rfl) rfl ?_
        refine rl_nil ?_
        refine at_then ?_
        first | refine ct_dec rfl (fun h4 => ?_) (fun h4 => ?_) | refine ct_ndec rfl (fun h4 => ?_) (fun h4 => ?_) | refine ct_eq rfl (fun h4 => ?_) (fun h4 => ?_) | refine ct_ne rfl (fun h4 => ?_) (fun h4 => ?_) | refine ct_not rfl (fun h4 => ?_) (fun h4 => ?_) | refine ct_cond rfl (fun h4 => ?_) (fun h4 => ?_)
        ·
          refine ct_reg ?_
          refine rl_val gw_none (ov_move rfl) rfl ?_
          refine rl_bslice Try.underlying24 ze3 sz3 rfl rfl rfl rfl rfl rfl (fun N12 => ?_)
          refine rl_calld (ι := (Int) × Int × Int) (fun j => .int .i64 j.1) [_, _] [_, _] (fun j => [(_, 74, [_, .int .i64 j.2.1, .int .u64 j.2.2])]) (fun j => ((-1000000) ≤ j.1 ∧ j.1 ≤ 1000000) ∧ _ ≤ j.2.1 ∧ j.2.1 ≤ _ + 2) gw_none goes73 rfl (fun _ hq => ((hq).pull 0 rfl).pull 1 rfl) (fun w1 hp h0 => among_c (-1000000) 1000000 _ _ _ _ _ _ _ _ _ _ _ _ h0 (hcd.call hp (by simp)) (by omega) (by first | rfl | decide | (simp [okIntsR]; done) | (simp [okIntsR]; omega) | (simp [okIntsR, Value.cells]; omega)) (by first | decide | (simp; done) | (simp; omega) | omega | (simp [Value.cells]; done) | (simp [Value.cells]; omega))) rfl (fun jx hjx => ?_)
          obtain ⟨vx, tx, sx⟩ := jx
          dsimp only at hjx
          try dsimp only
          refine rl_val gw_none (ov_field fo46_3 rfl) rfl ?_
          refine rl_store [_] sz3 rfl rfl rfl rfl rfl (Nat.le_of_ble_eq_true rfl) ?_
          refine rl_mem (fun _ hq => hq.cong (congrArg (fun x => _ :: (_, _, x) :: _) ((show _ = encExhibit (⟨i, vn, vm, vx, vl, vr, vc⟩ : Exhibit) from rfl)))) ?_
          refine rl_nil ?_
          refine at_block ?_
          refine at_then ?_
          refine ct_seq ?_
          refine ct_reg ?_
          first | refine rl_val gw_none (ov_loadall 1 ag46 rfl rfl rfl) rfl ?_ | refine rl_val gw_none (ov_loadp 1 ag46 rfl rfl (vs := [_, _, _, _, _, _, _]) rfl rfl) rfl ?_ | refine rl_val gw_none (ov_loada 1 ag46 rfl rfl rfl (by assumption)) rfl ?_
          refine rl_store [_, _] sz46 rfl rfl rfl rfl rfl (Nat.le_of_ble_eq_true rfl) ?_
          refine rl_mem (fun _ hq => hq.cong (congrArg (fun x => _ :: _ :: (_, _, x) :: _) ((show _ = encExhibit (⟨i, vn, vm, vx, vl, vr, vc⟩ : Exhibit) from rfl)))) ?_
          refine rl_nil ?_
          refine at_then ?_
          refine ct_ret ?_
          refine at_ret1 Try.results79 (ro_cell 2 ag46 rfl rfl rfl) (fun w1 hp => ?_)
          exact ⟨((⟨i, vn, vm, vx, vl, vr, vc⟩ : Exhibit), _, _), ⟨by unfold boundE; dsimp only; omega, by dsimp only; omega, by dsimp only; omega⟩, rfl, (Hp.sub (Hp.pull hp 0 rfl) (List.sublist_append_left [_] _))⟩
        ·
          refine ct_seq ?_
          refine ct_reg ?_
          refine rl_val gw_none (ov_eql rfl rfl) rfl ?_
          refine rl_val gw_none (ov_assign rfl) rfl ?_
          refine rl_nil ?_
          refine at_then ?_
          first | refine ct_dec rfl (fun h5 => ?_) (fun h5 => ?_) | refine ct_ndec rfl (fun h5 => ?_) (fun h5 => ?_) | refine ct_eq rfl (fun h5 => ?_) (fun h5 => ?_) | refine ct_ne rfl (fun h5 => ?_) (fun h5 => ?_) | refine ct_not rfl (fun h5 => ?_) (fun h5 => ?_) | refine ct_cond rfl (fun h5 => ?_) (fun h5 => ?_)
          ·
            refine ct_reg ?_
            refine rl_val gw_none (ov_move rfl) rfl ?_
            refine rl_bslice Try.underlying24 ze3 sz3 rfl rfl rfl rfl rfl rfl (fun N13 => ?_)
            refine rl_calld (ι := (Int) × Int × Int) (fun j => .int .i64 j.1) [_, _] [_, _] (fun j => [(_, 74, [_, .int .i64 j.2.1, .int .u64 j.2.2])]) (fun j => ((-1000000) ≤ j.1 ∧ j.1 ≤ 1000000) ∧ _ ≤ j.2.1 ∧ j.2.1 ≤ _ + 2) gw_none goes73 rfl (fun _ hq => ((hq).pull 0 rfl).pull 1 rfl) (fun w1 hp h0 => among_c (-1000000) 1000000 _ _ _ _ _ _ _ _ _ _ _ _ h0 (hcd.call hp (by simp)) (by omega) (by first | rfl | decide | (simp [okIntsR]; done) | (simp [okIntsR]; omega) | (simp [okIntsR, Value.cells]; omega)) (by first | decide | (simp; done) | (simp; omega) | omega | (simp [Value.cells]; done) | (simp [Value.cells]; omega))) rfl (fun jx hjx => ?_)
            obtain ⟨vx, tx, sx⟩ := jx
            dsimp only at hjx
            try dsimp only
            refine rl_val gw_none (ov_field fo46_4 rfl) rfl ?_
            refine rl_store [_] sz3 rfl rfl rfl rfl rfl (Nat.le_of_ble_eq_true rfl) ?_
            refine rl_mem (fun _ hq => hq.cong (congrArg (fun x => _ :: (_, _, x) :: _) ((show _ = encExhibit (⟨i, vn, vm, vu, vx, vr, vc⟩ : Exhibit) from rfl)))) ?_
            refine rl_nil ?_
            refine at_block ?_
            refine at_then ?_
            refine ct_seq ?_
            refine ct_reg ?_
            first | refine rl_val gw_none (ov_loadall 1 ag46 rfl rfl rfl) rfl ?_ | refine rl_val gw_none (ov_loadp 1 ag46 rfl rfl (vs := [_, _, _, _, _, _, _]) rfl rfl) rfl ?_ | refine rl_val gw_none (ov_loada 1 ag46 rfl rfl rfl (by assumption)) rfl ?_
            refine rl_store [_, _] sz46 rfl rfl rfl rfl rfl (Nat.le_of_ble_eq_true rfl) ?_
            refine rl_mem (fun _ hq => hq.cong (congrArg (fun x => _ :: _ :: (_, _, x) :: _) ((show _ = encExhibit (⟨i, vn, vm, vu, vx, vr, vc⟩ : Exhibit) from rfl)))) ?_
            refine rl_nil ?_
            refine at_then ?_
            refine ct_ret ?_
            refine at_ret1 Try.results79 (ro_cell 2 ag46 rfl rfl rfl) (fun w1 hp => ?_)
            exact ⟨((⟨i, vn, vm, vu, vx, vr, vc⟩ : Exhibit), _, _), ⟨by unfold boundE; dsimp only; omega, by dsimp only; omega, by dsimp only; omega⟩, rfl, (Hp.sub (Hp.pull hp 0 rfl) (List.sublist_append_left [_] _))⟩
          ·
            refine ct_seq ?_
            refine ct_reg ?_
            refine rl_val gw_none (ov_eql rfl rfl) rfl ?_
            refine rl_val gw_none (ov_assign rfl) rfl ?_
            refine rl_nil ?_
            refine at_then ?_
            first | refine ct_dec rfl (fun h6 => ?_) (fun h6 => ?_) | refine ct_ndec rfl (fun h6 => ?_) (fun h6 => ?_) | refine ct_eq rfl (fun h6 => ?_) (fun h6 => ?_) | refine ct_ne rfl (fun h6 => ?_) (fun h6 => ?_) | refine ct_not rfl (fun h6 => ?_) (fun h6 => ?_) | refine ct_cond rfl (fun h6 => ?_) (fun h6 => ?_)
            ·
              refine ct_reg ?_
              refine rl_val gw_none (ov_move rfl) rfl ?_
              refine rl_bslice Try.underlying24 ze3 sz3 rfl rfl rfl rfl rfl rfl (fun N14 => ?_)
              refine rl_calld (ι := (Int) × Int × Int) (fun j => .int .i64 j.1) [_, _] [_, _] (fun j => [(_, 74, [_, .int .i64 j.2.1, .int .u64 j.2.2])]) (fun j => ((-1000000) ≤ j.1 ∧ j.1 ≤ 1000000) ∧ _ ≤ j.2.1 ∧ j.2.1 ≤ _ + 2) gw_none goes73 rfl (fun _ hq => ((hq).pull 0 rfl).pull 1 rfl) (fun w1 hp h0 => among_c (-1000000) 1000000 _ _ _ _ _ _ _ _ _ _ _ _ h0 (hcd.call hp (by simp)) (by omega) (by first | rfl | decide | (simp [okIntsR]; done) | (simp [okIntsR]; omega) | (simp [okIntsR, Value.cells]; omega)) (by first | decide | (simp; done) | (simp; omega) | omega | (simp [Value.cells]; done) | (simp [Value.cells]; omega))) rfl (fun jx hjx => ?_)
              obtain ⟨vx, tx, sx⟩ := jx
              dsimp only at hjx
              try dsimp only
              refine rl_val gw_none (ov_field fo46_5 rfl) rfl ?_
              refine rl_store [_] sz3 rfl rfl rfl rfl rfl (Nat.le_of_ble_eq_true rfl) ?_
              refine rl_mem (fun _ hq => hq.cong (congrArg (fun x => _ :: (_, _, x) :: _) ((show _ = encExhibit (⟨i, vn, vm, vu, vl, vx, vc⟩ : Exhibit) from rfl)))) ?_
              refine rl_nil ?_
              refine at_block ?_
              refine at_then ?_
              refine ct_seq ?_
              refine ct_reg ?_
              first | refine rl_val gw_none (ov_loadall 1 ag46 rfl rfl rfl) rfl ?_ | refine rl_val gw_none (ov_loadp 1 ag46 rfl rfl (vs := [_, _, _, _, _, _, _]) rfl rfl) rfl ?_ | refine rl_val gw_none (ov_loada 1 ag46 rfl rfl rfl (by assumption)) rfl ?_
              refine rl_store [_, _] sz46 rfl rfl rfl rfl rfl (Nat.le_of_ble_eq_true rfl) ?_
              refine rl_mem (fun _ hq => hq.cong (congrArg (fun x => _ :: _ :: (_, _, x) :: _) ((show _ = encExhibit (⟨i, vn, vm, vu, vl, vx, vc⟩ : Exhibit) from rfl)))) ?_
              refine rl_nil ?_
              refine at_then ?_
              refine ct_ret ?_
              refine at_ret1 Try.results79 (ro_cell 2 ag46 rfl rfl rfl) (fun w1 hp => ?_)
              exact ⟨((⟨i, vn, vm, vu, vl, vx, vc⟩ : Exhibit), _, _), ⟨by unfold boundE; dsimp only; omega, by dsimp only; omega, by dsimp only; omega⟩, rfl, (Hp.sub (Hp.pull hp 0 rfl) (List.sublist_append_left [_] _))⟩
            ·
              refine ct_seq ?_
              refine ct_reg ?_
              refine rl_val gw_none (ov_eql rfl rfl) rfl ?_
              refine rl_val gw_none (ov_assign rfl) rfl ?_
              refine rl_nil ?_
              refine at_then ?_
              first | refine ct_dec rfl (fun h7 => ?_) (fun h7 => ?_) | refine ct_ndec rfl (fun h7 => ?_) (fun h7 => ?_) | refine ct_eq rfl (fun h7 => ?_) (fun h7 => ?_) | refine ct_ne rfl (fun h7 => ?_) (fun h7 => ?_) | refine ct_not rfl (fun h7 => ?_) (fun h7 => ?_) | refine ct_cond rfl (fun h7 => ?_) (fun h7 => ?_)
              ·
                refine ct_reg ?_
                refine rl_val gw_none (ov_move rfl) rfl ?_
                refine rl_bslice Try.underlying24 ze3 sz3 rfl rfl rfl rfl rfl rfl (fun N15 => ?_)
                refine rl_calld (ι := (Int) × Int × Int) (fun j => .int .i64 j.1) [_, _] [_, _] (fun j => [(_, 74, [_, .int .i64 j.2.1, .int .u64 j.2.2])]) (fun j => ((-1000000) ≤ j.1 ∧ j.1 ≤ 1000000) ∧ _ ≤ j.2.1 ∧ j.2.1 ≤ _ + 2) gw_none goes73 rfl (fun _ hq => ((hq).pull 0 rfl).pull 1 rfl) (fun w1 hp h0 => among_c (-1000000) 1000000 _ _ _ _ _ _ _ _ _ _ _ _ h0 (hcd.call hp (by simp)) (by omega) (by first | rfl | decide | (simp [okIntsR]; done) | (simp [okIntsR]; omega) | (simp [okIntsR, Value.cells]; omega)) (by first | decide | (simp; done) | (simp; omega) | omega | (simp [Value.cells]; done) | (simp [Value.cells]; omega))) rfl (fun jx hjx => ?_)
                obtain ⟨vx, tx, sx⟩ := jx
                dsimp only at hjx
                try dsimp only
                refine rl_val gw_none (ov_field fo46_6 rfl) rfl ?_
                refine rl_store [_] sz3 rfl rfl rfl rfl rfl (Nat.le_of_ble_eq_true rfl) ?_
                refine rl_mem (fun _ hq => hq.cong (congrArg (fun x => _ :: (_, _, x) :: _) ((show _ = encExhibit (⟨i, vn, vm, vu, vl, vr, vx⟩ : Exhibit) from rfl)))) ?_
                refine rl_nil ?_
                refine at_block ?_
                refine at_then ?_
                refine ct_seq ?_
                refine ct_reg ?_
                first | refine rl_val gw_none (ov_loadall 1 ag46 rfl rfl rfl) rfl ?_ | refine rl_val gw_none (ov_loadp 1 ag46 rfl rfl (vs := [_, _, _, _, _, _, _]) rfl rfl) rfl ?_ | refine rl_val gw_none (ov_loada 1 ag46 rfl rfl rfl (by assumption)) rfl ?_
                refine rl_store [_, _] sz46 rfl rfl rfl rfl rfl (Nat.le_of_ble_eq_true rfl) ?_
                refine rl_mem (fun _ hq => hq.cong (congrArg (fun x => _ :: _ :: (_, _, x) :: _) ((show _ = encExhibit (⟨i, vn, vm, vu, vl, vr, vx⟩ : Exhibit) from rfl)))) ?_
                refine rl_nil ?_
                refine at_then ?_
                refine ct_ret ?_
                refine at_ret1 Try.results79 (ro_cell 2 ag46 rfl rfl rfl) (fun w1 hp => ?_)
                exact ⟨((⟨i, vn, vm, vu, vl, vr, vx⟩ : Exhibit), _, _), ⟨by unfold boundE; dsimp only; omega, by dsimp only; omega, by dsimp only; omega⟩, rfl, (Hp.sub (Hp.pull hp 0 rfl) (List.sublist_append_left [_] _))⟩
              ·
                refine ct_skip ?_
                refine at_block ?_
                refine at_then ?_
                refine ct_seq ?_
                refine ct_reg ?_
                first | refine rl_val gw_none (ov_loadall 1 ag46 rfl rfl rfl) rfl ?_ | refine rl_val gw_none (ov_loadp 1 ag46 rfl rfl (vs := [_, _, _, _, _, _, _]) rfl rfl) rfl ?_ | refine rl_val gw_none (ov_loada 1 ag46 rfl rfl rfl (by assumption)) rfl ?_
                refine rl_store [_, _] sz46 rfl rfl rfl rfl rfl (Nat.le_of_ble_eq_true rfl) ?_
                refine rl_mem (fun _ hq => hq.cong (congrArg (fun x => _ :: _ :: (_, _, x) :: _) ((show _ = encExhibit (⟨i, vn, vm, vu, vl, vr, vc⟩ : Exhibit) from rfl)))) ?_
                refine rl_nil ?_
                refine at_then ?_
                refine ct_ret ?_
                refine at_ret1 Try.results79 (ro_cell 2 ag46 rfl rfl rfl) (fun w1 hp => ?_)
                exact ⟨((⟨i, vn, vm, vu, vl, vr, vc⟩ : Exhibit), _, _), ⟨by unfold boundE; dsimp only; omega, by dsimp only; omega, by dsimp only; omega⟩, rfl, (Hp.sub (Hp.pull hp 0 rfl) (List.sublist_append_left [_] _))⟩
end Go.Proofs.Ytfelindekikaeaa
