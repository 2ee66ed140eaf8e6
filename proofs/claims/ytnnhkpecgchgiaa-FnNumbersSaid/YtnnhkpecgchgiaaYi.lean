import Derived.Test.YtnnhkpecgchgiaaYh
import Derived.KernelRfl
set_option linter.unusedVariables false
set_option linter.unusedSimpArgs false
namespace Go.Proofs.Ytnnhkpecgchgiaa
open Go Go.RowKit K
theorem at_ret4 {P : Program} {n : Nat} {σ : List (Nat × Value)} {w0 : Base} {μ : List Ent} {fn : Func} {R : Ending → World → Prop} {r1 r2 r3 r4 : ResultVar} {v1 v2 v3 v4 : Value} (hr : fn.results = #[r1, r2, r3, r4]) (h1 : RO P n r1 v1 σ w0 μ) (h2 : RO P n r2 v2 σ w0 μ) (h3 : RO P n r3 v3 σ w0 μ) (h4 : RO P n r4 v4 σ w0 μ) (hR : ∀ w, Hp w0 μ w → R (.returned (.tuple #[v1, v2, v3, v4])) w) :
    AT n (bodyPost P fn R .ret) σ w0 μ := fun a w hk hp => by
  refine ⟨hk.1, _, ?_, hR w hp⟩
  rw [results_one, hr]
  simp [h1 a w hk hp, h2 a w hk hp, h3 a w hk hp, h4 a w hk hp]

theorem DrawFrameFor_c (a : Option Addr) (lc capc : Nat) (w : World) (hcd : CodeOk w [] a lc) : Calls Try.prog 47 ([.slice a lc capc]).toArray w (fun e w' => ∃ q : Int × Int × Int × Int, (In64 q.1 ∧ In64 q.2.1 ∧ In64 q.2.2.1 ∧ In64 q.2.2.2) ∧ e = .returned (.tuple #[.int .i64 q.1, .int .i64 q.2.1, .int .i64 q.2.2.1, .int .i64 q.2.2.2]) ∧ Ext w w') := by
  refine calls_ct Try.func47 Try.ntmps47 rfl rfl ?_
  refine ct_seq ?_
  refine ct_reg ?_
  refine rl_val gw_none (ov_assign rfl) rfl ?_
  refine rl_val gw_none (ov_assign rfl) rfl ?_
  refine rl_val gw_none (ov_assign rfl) rfl ?_
  refine rl_val gw_none (ov_assign rfl) rfl ?_
  refine rl_nil ?_
  refine at_then ?_
  refine ct_seq ?_
  refine ct_reg ?_
  refine rl_val gw_none (ov_move rfl) rfl ?_
  refine rl_val gw_none (ov_build rfl (bu109_0 _ _ _)) rfl ?_
  refine rl_box rfl rfl (fun N1 => ?_)
  refine rl_val gw_none (ov_assign rfl) rfl ?_
  refine rl_nil ?_
  refine at_then ?_
  refine ct_seq ?_
  refine ct_reg ?_
  refine rl_val gw_none (ov_move rfl) rfl ?_
  refine rl_bslice Try.underlying27 ze3 sz3 rfl rfl rfl rfl rfl rfl (fun N2 => ?_)
  refine rl_calld (ι := (Int) × Int × Int) (fun j => .int .i64 j.1) [_, _] [] (fun j => [(_, 109, [_, .int .i64 j.2.1, .int .u64 j.2.2])]) (fun j => ((-10000000000) ≤ j.1 ∧ j.1 ≤ 10000000000) ∧ _ ≤ j.2.1 ∧ j.2.1 ≤ _ + 2) gw_none goes111 rfl (fun _ hq => ((hq).pull 0 rfl).pull 1 rfl) (fun w1 hp h0 => among_c (-10000000000) 10000000000 _ _ _ _ _ _ _ _ _ _ _ _ h0 (hcd.call hp (by simp)) (by omega) (by first | rfl | decide | (simp [okIntsR]; done) | (simp [okIntsR]; omega) | (simp [okIntsR, Value.cells]; omega)) (by first | decide | (simp; done) | (simp; omega) | omega | (simp [Value.cells]; done) | (simp [Value.cells]; omega))) rfl (fun jr hjr => ?_)
  obtain ⟨vr, tr, sr⟩ := jr
  dsimp only at hjr
  try dsimp only
  refine rl_val gw_none (ov_assign rfl) rfl ?_
  refine rl_nil ?_
  refine at_then ?_
  refine ct_seq ?_
  refine ct_reg ?_
  refine rl_val gw_none (ov_move rfl) rfl ?_
  refine rl_bslice Try.underlying27 ze3 sz3 rfl rfl rfl rfl rfl rfl (fun N3 => ?_)
  refine rl_calld (ι := (Int) × Int × Int) (fun j => .int .i64 j.1) [_, _] [] (fun j => [(_, 109, [_, .int .i64 j.2.1, .int .u64 j.2.2])]) (fun j => ((-10000000000) ≤ j.1 ∧ j.1 ≤ 10000000000) ∧ _ ≤ j.2.1 ∧ j.2.1 ≤ _ + 2) gw_none goes111 rfl (fun _ hq => ((hq).pull 0 rfl).pull 1 rfl) (fun w1 hp h0 => among_c (-10000000000) 10000000000 _ _ _ _ _ _ _ _ _ _ _ _ h0 (hcd.call hp (by simp)) (by omega) (by first | rfl | decide | (simp [okIntsR]; done) | (simp [okIntsR]; omega) | (simp [okIntsR, Value.cells]; omega)) (by first | decide | (simp; done) | (simp; omega) | omega | (simp [Value.cells]; done) | (simp [Value.cells]; omega))) rfl (fun ju hju => ?_)
  obtain ⟨vu, tu, su⟩ := ju
  dsimp only at hju
  try dsimp only
  refine rl_val gw_none (ov_move rfl) rfl ?_
  refine rl_bslice Try.underlying27 ze3 sz3 rfl rfl rfl rfl rfl rfl (fun N4 => ?_)
  refine rl_calld (ι := (Int) × Int × Int) (fun j => .int .i64 j.1) [_, _] [] (fun j => [(_, 109, [_, .int .i64 j.2.1, .int .u64 j.2.2])]) (fun j => ((-10000000000) ≤ j.1 ∧ j.1 ≤ 10000000000) ∧ _ ≤ j.2.1 ∧ j.2.1 ≤ _ + 2) gw_none goes111 rfl (fun _ hq => ((hq).pull 0 rfl).pull 1 rfl) (fun w1 hp h0 => among_c (-10000000000) 10000000000 _ _ _ _ _ _ _ _ _ _ _ _ h0 (hcd.call hp (by simp)) (by omega) (by first | rfl | decide | (simp [okIntsR]; done) | (simp [okIntsR]; omega) | (simp [okIntsR, Value.cells]; omega)) (by first | decide | (simp; done) | (simp; omega) | omega | (simp [Value.cells]; done) | (simp [Value.cells]; omega))) rfl (fun jl hjl => ?_)
  obtain ⟨vl, tl, sl⟩ := jl
  dsimp only at hjl
  try dsimp only
  refine rl_val gw_none (ov_move rfl) rfl ?_
  refine rl_val gw_none (ov_move rfl) rfl ?_
  refine rl_bslice Try.underlying27 ze3 sz3 rfl rfl rfl rfl rfl rfl (fun N5 => ?_)
  refine rl_calld (ι := (Int) × Int × Int) (fun j => .int .i64 j.1) [_, _] [] (fun j => [(_, 109, [_, .int .i64 j.2.1, .int .u64 j.2.2])]) (fun j => ((-10000000000) ≤ j.1 ∧ j.1 ≤ 10000000000) ∧ _ ≤ j.2.1 ∧ j.2.1 ≤ _ + 2) gw_none goes111 rfl (fun _ hq => ((hq).pull 0 rfl).pull 1 rfl) (fun w1 hp h0 => among_c (-10000000000) 10000000000 _ _ _ _ _ _ _ _ _ _ _ _ h0 (hcd.call hp (by simp)) (by omega) (by first | rfl | decide | (simp [okIntsR]; done) | (simp [okIntsR]; omega) | (simp [okIntsR, Value.cells]; omega)) (by first | decide | (simp; done) | (simp; omega) | omega | (simp [Value.cells]; done) | (simp [Value.cells]; omega))) rfl (fun jn hjn => ?_)
  obtain ⟨vn, tn, sn⟩ := jn
  dsimp only at hjn
  try dsimp only
  refine rl_val gw_none (ov_assign rfl) rfl ?_
  refine rl_val gw_none (ov_assign rfl) rfl ?_
  refine rl_val gw_none (ov_assign rfl) rfl ?_
  refine rl_val gw_none (ov_assign rfl) rfl ?_
  refine rl_nil ?_
  refine at_then ?_
  refine ct_ret ?_
  refine at_ret4 Try.results47 (ro_tmp rfl) (ro_tmp rfl) (ro_tmp rfl) (ro_tmp rfl) (fun w1 hp => ?_)
  exact ⟨(vu, vl, vr, vn), ⟨by unfold In64; dsimp only; omega, by unfold In64; dsimp only; omega, by unfold In64; dsimp only; omega, by unfold In64; dsimp only; omega⟩, rfl, hp.ext0⟩

theorem DrawSetRod_c (a : Option Addr) (lc capc : Nat) (w : World) (hcd : CodeOk w [] a lc) : Calls Try.prog 52 ([.slice a lc capc]).toArray w (fun e w' => ∃ q : (Int × Int × Option Nat × Nat × List Value × List IntA2) × Int × Int, (((-10 ≤ q.1.1 ∧ q.1.1 ≤ 10) ∧ (-10 ≤ q.1.2.1 ∧ q.1.2.1 ≤ 10) ∧ Sl 2 q.1.2.2.1 q.1.2.2.2.2.2.length q.1.2.2.2.1 (flat encIntA2 q.1.2.2.2.2.2) q.1.2.2.2.2.1 ∧ (1 ≤ q.1.2.2.2.2.2.length ∧ q.1.2.2.2.2.2.length ≤ 10) ∧ (∀ y ∈ q.1.2.2.2.2.2, GIntA2 y)) ∧ In64 q.2.1 ∧ In64 q.2.2) ∧ e = .returned (.tuple #[.agg [.int .i64 q.1.1, .int .i64 q.1.2.1, sv q.1.2.2.1 q.1.2.2.2.2.2.length q.1.2.2.2.1].toArray, .int .i64 q.2.1, .int .i64 q.2.2]) ∧ Hp ⟨w, []⟩ [(q.1.2.2.1, 81, flat encIntA2 q.1.2.2.2.2.2 ++ q.1.2.2.2.2.1)] w') := by
  refine calls_ct Try.func52 Try.ntmps52 rfl rfl ?_
  refine ct_seq ?_
  refine ct_reg ?_
  refine rl_alloc ze26 rfl (fun N1 => ?_)
  refine rl_val gw_none (ov_assign rfl) rfl ?_
  refine rl_val gw_none (ov_assign rfl) rfl ?_
  refine rl_nil ?_
  refine at_then ?_
  refine ct_seq ?_
  refine ct_reg ?_
  refine rl_val gw_none (ov_move rfl) rfl ?_
  refine rl_val gw_none (ov_build rfl (bu109_0 _ _ _)) rfl ?_
  refine rl_box rfl rfl (fun N2 => ?_)
  refine rl_val gw_none (ov_assign rfl) rfl ?_
  refine rl_nil ?_
  refine at_then ?_
  refine ct_seq ?_
  refine ct_reg ?_
  refine rl_val gw_none (ov_move rfl) rfl ?_
  refine rl_calld (ι := (Int × Int × Option Nat × Nat × List Value × List IntA2) × Int × Int) (fun j => .agg [.int .i64 j.1.1, .int .i64 j.1.2.1, sv j.1.2.2.1 j.1.2.2.2.2.2.length j.1.2.2.2.1].toArray) [_] [_] (fun j => [(_, 109, [_, .int .i64 j.2.1, .int .u64 j.2.2]), (j.1.2.2.1, 81, flat encIntA2 j.1.2.2.2.2.2 ++ j.1.2.2.2.2.1)]) (fun j => ((-10 ≤ j.1.1 ∧ j.1.1 ≤ 10) ∧ (-10 ≤ j.1.2.1 ∧ j.1.2.1 ≤ 10) ∧ Sl 2 j.1.2.2.1 j.1.2.2.2.2.2.length j.1.2.2.2.1 (flat encIntA2 j.1.2.2.2.2.2) j.1.2.2.2.2.1 ∧ (1 ≤ j.1.2.2.2.2.2.length ∧ j.1.2.2.2.2.2.length ≤ 10) ∧ (∀ y ∈ j.1.2.2.2.2.2, GIntA2 y)) ∧ _ ≤ j.2.1 ∧ j.2.1 ≤ _ + 120) gw_none goes118 rfl (fun _ hq => (hq).pull 0 rfl) (fun w1 hp h0 => frame_c _ _ _ _ _ _ _ _ h0 (hcd.call hp (by simp)) (by omega)) rfl (fun jf hjf => ?_)
  obtain ⟨⟨u, l, bo, cap, pad, xs⟩, tjf, sjf⟩ := jf
  obtain ⟨⟨hu, hl, hsl, hxl, hG⟩, ht⟩ := hjf
  dsimp only at hu hl hsl hxl hG ht
  try dsimp only
  obtain ⟨b0, rfl⟩ := slSomeG hsl (by omega)
  have zu : In64 u := by unfold In64; omega
  have zl : In64 l := by unfold In64; omega
  refine rl_alloc ze26 rfl (fun N3 => ?_)
  refine rl_store [] sz26 rfl rfl rfl rfl rfl (Nat.le_of_ble_eq_true rfl) ?_
  refine rl_nil ?_
  refine at_then ?_
  refine ct_seq ?_
  refine ct_fl 12 [0, 1, 2, 4, 6, 3, 5, 7, 8, 9, 10, 11, 12] ⟨0, [5, 6, 7, 10], [5, 6, 7, 10], [], [2], [0]⟩ (fun q => ⟨0, [], fun _ => undef⟩) (by kernel_rfl) (by kernel_rfl) ?_
  refine qf_mark True.intro ?_
  first | refine qg_vall 0 rfl rfl rfl gw_none (ov_loadall 0 ag26 rfl rfl rfl) rfl ?_ | refine qg_vall 0 rfl rfl rfl gw_none (ov_loada 0 ag26 rfl rfl rfl (by assumption)) rfl ?_
  refine qf_step rfl ?_
  refine qg_val rfl gw_none (fun _ => (ov_move rfl)) rfl ?_
  refine qf_step rfl ?_
  first | refine qg_valm rfl rfl gw_none (ov_loadall 0 ag26 rfl rfl rfl) rfl ?_ | refine qg_valm rfl rfl gw_none (ov_loadp 0 ag26 rfl rfl (vs := [_, _, _]) rfl rfl) rfl ?_ | refine qg_valm rfl rfl gw_none (ov_loada 0 ag26 rfl rfl rfl (by assumption)) rfl ?_
  refine qf_step rfl ?_
  refine qg_val rfl gw_none (fun _ => (ov_move rfl)) rfl ?_
  refine qf_step rfl ?_
  refine qg_val rfl gw_none (fun _ => (ov_move rfl)) rfl ?_
  refine qf_step rfl ?_
  refine qg_calld (ι := (Int) × Int × Int) (fun j => .int .i64 j.1) [_] [_, _, _] (fun j => [(_, 109, [_, .int .i64 j.2.1, .int .u64 j.2.2])]) (fun j => (-2 ≤ j.1 ∧ j.1 ≤ 100) ∧ _ ≤ j.2.1 ∧ j.2.1 ≤ _ + 10) rfl rfl rfl (fun _ _ => ⟨⟨1, rfl⟩, True.intro⟩) goes119 rfl (fun _ _ hq => (hq).pull 1 rfl) (fun w1 hp h0 => rodOf_d _ _ _ _ _ _ _ _ _ _ _ _ _ h0 (hcd.call hp (by simp)) (by omega) (by omega)) rfl (fun jr hjr => ?_)
  obtain ⟨vr, tr, sr⟩ := jr
  dsimp only at hjr
  try dsimp only
  refine qf_step rfl ?_
  refine qg_calld (ι := (Int) × Int × Int) (fun j => .int .i64 j.1) [_] [_, _, _] (fun j => [(_, 109, [_, .int .i64 j.2.1, .int .u64 j.2.2])]) (fun j => (0 ≤ j.1 ∧ (j.1 < _ ∨ j.1 = 0)) ∧ _ ≤ j.2.1 ∧ j.2.1 ≤ _ + 2) rfl rfl rfl (fun _ _ => ⟨⟨1, rfl⟩, True.intro⟩) goes120 rfl (fun _ _ hq => (hq).pull 0 rfl) (fun w1 hp h0 => pick_c _ _ _ _ _ _ _ _ _ h0 (hcd.call hp (by simp)) (by omega) (by omega)) rfl (fun jd hjd => ?_)
  obtain ⟨vd, td, sd⟩ := jd
  dsimp only at hjd
  try dsimp only
  refine qf_step rfl ?_
  refine qg_calld (ι := (Int) × Int × Int) (fun j => .int .i64 j.1) [_] [_, _, _] (fun j => [(_, 109, [_, .int .i64 j.2.1, .int .u64 j.2.2])]) (fun j => (0 ≤ j.1 ∧ (j.1 < _ ∨ j.1 = 0)) ∧ _ ≤ j.2.1 ∧ j.2.1 ≤ _ + 2) rfl rfl rfl (fun _ _ => ⟨⟨1, rfl⟩, True.intro⟩) goes120 rfl (fun _ _ hq => (hq).pull 0 rfl) (fun w1 hp h0 => pick_c _ _ _ _ _ _ _ _ _ h0 (hcd.call hp (by simp)) (by omega) (by omega)) rfl (fun jz hjz => ?_)
  obtain ⟨vz, tz, sz⟩ := jz
  dsimp only at hjz
  try dsimp only
  refine qf_step rfl ?_
  refine qg_val rfl gw_none (fun _ => (ov_quo rfl rfl (by omega) (by omega) (by omega))) rfl ?_
  refine qf_step rfl ?_
  refine qg_val rfl gw_none (fun _ => (ov_sub rfl rfl (by omega))) rfl ?_
  refine qf_step rfl ?_
  refine qg_store [_, _, _] rfl rfl rfl ⟨⟨1, rfl⟩, True.intro⟩ sz26 rfl rfl rfl rfl rfl (Nat.le_of_ble_eq_true rfl) ?_
  refine qf_step rfl ?_
  refine qg_val rfl gw_none (fun _ => (ov_assign rfl)) rfl ?_
  refine qf_nil ?_
  refine rl_val gw_none (ov_assign rfl) rfl ?_
  refine rl_nil ?_
  refine at_then ?_
  refine ct_ret ?_
  refine at_ret3 Try.results52 (ro_cell 3 ag26 rfl rfl rfl) (ro_tmp rfl) (ro_tmp rfl) (fun w1 hp => ?_)
  exact ⟨((u, l, some b0, cap, pad, xs), _, _), ⟨⟨hu, hl, hsl, hxl, hG⟩, by unfold In64; dsimp only; omega, by unfold In64; dsimp only; omega⟩, rfl, (Hp.sub (Hp.pull hp 2 rfl) (List.sublist_append_left [_] _))⟩

theorem DrawRodValue_c (a : Option Addr) (lc capc : Nat) (w : World) (hcd : CodeOk w [] a lc) : Calls Try.prog 56 ([.slice a lc capc]).toArray w (fun e w' => ∃ q : (Int × Int × Option Nat × Nat × List Value × List IntA2) × Int, (((-10 ≤ q.1.1 ∧ q.1.1 ≤ 10) ∧ (-10 ≤ q.1.2.1 ∧ q.1.2.1 ≤ 10) ∧ Sl 2 q.1.2.2.1 q.1.2.2.2.2.2.length q.1.2.2.2.1 (flat encIntA2 q.1.2.2.2.2.2) q.1.2.2.2.2.1 ∧ (1 ≤ q.1.2.2.2.2.2.length ∧ q.1.2.2.2.2.2.length ≤ 10) ∧ (∀ y ∈ q.1.2.2.2.2.2, GIntA2 y)) ∧ In64 q.2) ∧ e = .returned (.tuple #[.agg [.int .i64 q.1.1, .int .i64 q.1.2.1, sv q.1.2.2.1 q.1.2.2.2.2.2.length q.1.2.2.2.1].toArray, .int .i64 q.2]) ∧ Hp ⟨w, []⟩ [(q.1.2.2.1, 81, flat encIntA2 q.1.2.2.2.2.2 ++ q.1.2.2.2.2.1)] w') := by
  refine calls_ct Try.func56 Try.ntmps56 rfl rfl ?_
  refine ct_seq ?_
  refine ct_reg ?_
  refine rl_alloc ze26 rfl (fun N1 => ?_)
  refine rl_val gw_none (ov_assign rfl) rfl ?_
  refine rl_nil ?_
  refine at_then ?_
  refine ct_seq ?_
  refine ct_reg ?_
  refine rl_val gw_none (ov_move rfl) rfl ?_
  refine rl_val gw_none (ov_build rfl (bu109_0 _ _ _)) rfl ?_
  refine rl_box rfl rfl (fun N2 => ?_)
  refine rl_val gw_none (ov_assign rfl) rfl ?_
  refine rl_nil ?_
  refine at_then ?_
  refine ct_seq ?_
  refine ct_reg ?_
  refine rl_val gw_none (ov_move rfl) rfl ?_
  refine rl_calld (ι := (Int × Int × Option Nat × Nat × List Value × List IntA2) × Int × Int) (fun j => .agg [.int .i64 j.1.1, .int .i64 j.1.2.1, sv j.1.2.2.1 j.1.2.2.2.2.2.length j.1.2.2.2.1].toArray) [_] [_] (fun j => [(_, 109, [_, .int .i64 j.2.1, .int .u64 j.2.2]), (j.1.2.2.1, 81, flat encIntA2 j.1.2.2.2.2.2 ++ j.1.2.2.2.2.1)]) (fun j => ((-10 ≤ j.1.1 ∧ j.1.1 ≤ 10) ∧ (-10 ≤ j.1.2.1 ∧ j.1.2.1 ≤ 10) ∧ Sl 2 j.1.2.2.1 j.1.2.2.2.2.2.length j.1.2.2.2.1 (flat encIntA2 j.1.2.2.2.2.2) j.1.2.2.2.2.1 ∧ (1 ≤ j.1.2.2.2.2.2.length ∧ j.1.2.2.2.2.2.length ≤ 10) ∧ (∀ y ∈ j.1.2.2.2.2.2, GIntA2 y)) ∧ _ ≤ j.2.1 ∧ j.2.1 ≤ _ + 120) gw_none goes118 rfl (fun _ hq => (hq).pull 0 rfl) (fun w1 hp h0 => frame_c _ _ _ _ _ _ _ _ h0 (hcd.call hp (by simp)) (by omega)) rfl (fun jf hjf => ?_)
  obtain ⟨⟨u, l, bo, cap, pad, xs⟩, tjf, sjf⟩ := jf
  obtain ⟨⟨hu, hl, hsl, hxl, hG⟩, ht⟩ := hjf
  dsimp only at hu hl hsl hxl hG ht
  try dsimp only
  obtain ⟨b0, rfl⟩ := slSomeG hsl (by omega)
  have zu : In64 u := by unfold In64; omega
  have zl : In64 l := by unfold In64; omega
  refine rl_alloc ze26 rfl (fun N3 => ?_)
  refine rl_store [] sz26 rfl rfl rfl rfl rfl (Nat.le_of_ble_eq_true rfl) ?_
  refine rl_nil ?_
  refine at_then ?_
  refine ct_seq ?_
  refine ct_fl 4 [0, 1, 2, 3, 4, 5] ⟨0, [3], [3], [], [2], [0]⟩ (fun q => ⟨0, [], fun _ => undef⟩) (by kernel_rfl) (by kernel_rfl) ?_
  refine qf_mark True.intro ?_
  first | refine qg_vall 0 rfl rfl rfl gw_none (ov_loadall 0 ag26 rfl rfl rfl) rfl ?_ | refine qg_vall 0 rfl rfl rfl gw_none (ov_loada 0 ag26 rfl rfl rfl (by assumption)) rfl ?_
  refine qf_step rfl ?_
  refine qg_val rfl gw_none (fun _ => (ov_move rfl)) rfl ?_
  refine qf_step rfl ?_
  first | refine qg_valm rfl rfl gw_none (ov_loadall 0 ag26 rfl rfl rfl) rfl ?_ | refine qg_valm rfl rfl gw_none (ov_loadp 0 ag26 rfl rfl (vs := [_, _, _]) rfl rfl) rfl ?_ | refine qg_valm rfl rfl gw_none (ov_loada 0 ag26 rfl rfl rfl (by assumption)) rfl ?_
  refine qf_step rfl ?_
  refine qg_calld (ι := (Int) × Int × Int) (fun j => .int .i64 j.1) [_] [_, _, _] (fun j => [(_, 109, [_, .int .i64 j.2.1, .int .u64 j.2.2])]) (fun j => (-2 ≤ j.1 ∧ j.1 ≤ 100) ∧ _ ≤ j.2.1 ∧ j.2.1 ≤ _ + 10) rfl rfl rfl (fun _ _ => ⟨⟨1, rfl⟩, True.intro⟩) goes119 rfl (fun _ _ hq => (hq).pull 1 rfl) (fun w1 hp h0 => rodOf_d _ _ _ _ _ _ _ _ _ _ _ _ _ h0 (hcd.call hp (by simp)) (by omega) (by omega)) rfl (fun jr hjr => ?_)
  obtain ⟨vr, tr, sr⟩ := jr
  dsimp only at hjr
  try dsimp only
  refine qf_nil ?_
  refine rl_store [_, _, _] sz26 rfl rfl rfl rfl rfl (Nat.le_of_ble_eq_true rfl) ?_
  refine rl_val gw_none (ov_assign rfl) rfl ?_
  refine rl_nil ?_
  refine at_then ?_
  refine ct_ret ?_
  refine at_ret2 Try.results56 (ro_cell 3 ag26 rfl rfl rfl) (ro_tmp rfl) (fun w1 hp => ?_)
  exact ⟨((u, l, some b0, cap, pad, xs), _), ⟨⟨hu, hl, hsl, hxl, hG⟩, by unfold In64; dsimp only; omega⟩, rfl, (Hp.sub (Hp.pull hp 2 rfl) (List.sublist_append_left [_] _))⟩

theorem DrawIsFrame_c (a : Option Addr) (lc capc : Nat) (w : World) (hcd : CodeOk w [] a lc) : Calls Try.prog 125 ([.slice a lc capc]).toArray w (fun e w' => ∃ q : Int × Int × Option Nat × Nat × List Value × List IntA2, ((-10 ≤ q.1 ∧ q.1 ≤ 10) ∧ (-10 ≤ q.2.1 ∧ q.2.1 ≤ 10) ∧ Sl 2 q.2.2.1 q.2.2.2.2.2.length q.2.2.2.1 (flat encIntA2 q.2.2.2.2.2) q.2.2.2.2.1 ∧ (1 ≤ q.2.2.2.2.2.length ∧ q.2.2.2.2.2.length ≤ 10) ∧ (∀ y ∈ q.2.2.2.2.2, GIntA2 y)) ∧ e = .returned (.agg [.int .i64 q.1, .int .i64 q.2.1, sv q.2.2.1 q.2.2.2.2.2.length q.2.2.2.1].toArray) ∧ Hp ⟨w, []⟩ [(q.2.2.1, 81, flat encIntA2 q.2.2.2.2.2 ++ q.2.2.2.2.1)] w') := by
  refine calls_ct Try.func125 Try.ntmps125 rfl rfl ?_
  refine ct_seq ?_
  refine ct_reg ?_
  refine rl_alloc ze26 rfl (fun N1 => ?_)
  refine rl_nil ?_
  refine at_then ?_
  refine ct_seq ?_
  refine ct_reg ?_
  refine rl_val gw_none (ov_move rfl) rfl ?_
  refine rl_val gw_none (ov_build rfl (bu109_0 _ _ _)) rfl ?_
  refine rl_box rfl rfl (fun N2 => ?_)
  refine rl_val gw_none (ov_assign rfl) rfl ?_
  refine rl_nil ?_
  refine at_then ?_
  refine ct_seq ?_
  refine ct_reg ?_
  refine rl_val gw_none (ov_move rfl) rfl ?_
  refine rl_calld (ι := (Int × Int × Option Nat × Nat × List Value × List IntA2) × Int × Int) (fun j => .agg [.int .i64 j.1.1, .int .i64 j.1.2.1, sv j.1.2.2.1 j.1.2.2.2.2.2.length j.1.2.2.2.1].toArray) [_] [_] (fun j => [(_, 109, [_, .int .i64 j.2.1, .int .u64 j.2.2]), (j.1.2.2.1, 81, flat encIntA2 j.1.2.2.2.2.2 ++ j.1.2.2.2.2.1)]) (fun j => ((-10 ≤ j.1.1 ∧ j.1.1 ≤ 10) ∧ (-10 ≤ j.1.2.1 ∧ j.1.2.1 ≤ 10) ∧ Sl 2 j.1.2.2.1 j.1.2.2.2.2.2.length j.1.2.2.2.1 (flat encIntA2 j.1.2.2.2.2.2) j.1.2.2.2.2.1 ∧ (1 ≤ j.1.2.2.2.2.2.length ∧ j.1.2.2.2.2.2.length ≤ 10) ∧ (∀ y ∈ j.1.2.2.2.2.2, GIntA2 y)) ∧ _ ≤ j.2.1 ∧ j.2.1 ≤ _ + 120) gw_none goes118 rfl (fun _ hq => (hq).pull 0 rfl) (fun w1 hp h0 => frame_c _ _ _ _ _ _ _ _ h0 (hcd.call hp (by simp)) (by omega)) rfl (fun jf hjf => ?_)
  obtain ⟨⟨u, l, bo, cap, pad, xs⟩, tjf, sjf⟩ := jf
  obtain ⟨⟨hu, hl, hsl, hxl, hG⟩, ht⟩ := hjf
  dsimp only at hu hl hsl hxl hG ht
  try dsimp only
  obtain ⟨b0, rfl⟩ := slSomeG hsl (by omega)
  have zu : In64 u := by unfold In64; omega
  have zl : In64 l := by unfold In64; omega
  refine rl_store [_, _] sz26 rfl rfl rfl rfl rfl (Nat.le_of_ble_eq_true rfl) ?_
  refine rl_nil ?_
  refine at_then ?_
  refine ct_ret ?_
  refine at_ret1 Try.results125 (ro_cell 2 ag26 rfl rfl rfl) (fun w1 hp => ?_)
  exact ⟨(u, l, some b0, cap, pad, xs), ⟨hu, hl, hsl, hxl, hG⟩, rfl, (Hp.sub (Hp.pull hp 1 rfl) (List.sublist_append_left [_] _))⟩

theorem DrawNumberOn_c (a : Option Addr) (lc capc : Nat) (w : World) (hcd : CodeOk w [] a lc) : Calls Try.prog 58 ([.slice a lc capc]).toArray w (fun e w' => ∃ q : Int × Int × Option Nat × Nat × List Value × List IntA2, ((-10 ≤ q.1 ∧ q.1 ≤ 10) ∧ (-10 ≤ q.2.1 ∧ q.2.1 ≤ 10) ∧ Sl 2 q.2.2.1 q.2.2.2.2.2.length q.2.2.2.1 (flat encIntA2 q.2.2.2.2.2) q.2.2.2.2.1 ∧ (1 ≤ q.2.2.2.2.2.length ∧ q.2.2.2.2.2.length ≤ 10) ∧ (∀ y ∈ q.2.2.2.2.2, GIntA2 y)) ∧ e = .returned (.agg [.int .i64 q.1, .int .i64 q.2.1, sv q.2.2.1 q.2.2.2.2.2.length q.2.2.2.1].toArray) ∧ Hp ⟨w, []⟩ [(q.2.2.1, 81, flat encIntA2 q.2.2.2.2.2 ++ q.2.2.2.2.1)] w') := by
  refine calls_ct Try.func58 Try.ntmps58 rfl rfl ?_
  refine ct_seq ?_
  refine ct_reg ?_
  refine rl_alloc ze26 rfl (fun N1 => ?_)
  refine rl_nil ?_
  refine at_then ?_
  refine ct_seq ?_
  refine ct_reg ?_
  refine rl_val gw_none (ov_move rfl) rfl ?_
  refine rl_calle (ι := Int × Int × Option Nat × Nat × List Value × List IntA2) (fun q => .agg [.int .i64 q.1, .int .i64 q.2.1, sv q.2.2.1 q.2.2.2.2.2.length q.2.2.2.1].toArray) (fun q => [(q.2.2.1, 81, flat encIntA2 q.2.2.2.2.2 ++ q.2.2.2.2.1)]) (fun q => (-10 ≤ q.1 ∧ q.1 ≤ 10) ∧ (-10 ≤ q.2.1 ∧ q.2.1 ≤ 10) ∧ Sl 2 q.2.2.1 q.2.2.2.2.2.length q.2.2.2.1 (flat encIntA2 q.2.2.2.2.2) q.2.2.2.2.1 ∧ (1 ≤ q.2.2.2.2.2.length ∧ q.2.2.2.2.2.length ≤ 10) ∧ (∀ y ∈ q.2.2.2.2.2, GIntA2 y)) goes125 rfl (fun w1 hp => DrawIsFrame_c _ _ _ _ (hcd.call hp (E := []) (by simp))) rfl (fun qd hqd => ?_)
  refine rl_store [_] sz26 rfl rfl rfl rfl rfl (Nat.le_of_ble_eq_true rfl) ?_
  refine rl_nil ?_
  refine at_then ?_
  refine ct_ret ?_
  refine at_ret1 Try.results58 (ro_cell 1 ag26 rfl rfl rfl) (fun w1 hp => ?_)
  exact ⟨qd, hqd, rfl, (Hp.sub (Hp.pull hp 0 rfl) (List.sublist_append_left [_] _))⟩
end Go.Proofs.Ytnnhkpecgchgiaa
