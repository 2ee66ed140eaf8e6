import Derived.Test.YtnnhkpecgchgiaaYa
import Derived.Test.YtnnhkpecgchgiaaTb
import Derived.KernelRfl
set_option linter.unusedVariables false
set_option linter.unusedSimpArgs false
namespace Go.Proofs.Ytnnhkpecgchgiaa
open Go Go.RowKit K
theorem gI2_snoc {xs : List IntA2} {z : IntA2} (h : ∀ y ∈ xs, GIntA2 y) (hz : GIntA2 z) : ∀ y ∈ xs ++ [z], GIntA2 y := fun y hy => by
  rcases List.mem_append.1 hy with hy | hy
  · exact h y hy
  · obtain rfl := List.mem_singleton.1 hy; exact hz
theorem gI2_set {xs : List IntA2} {z : IntA2} (h : ∀ y ∈ xs, GIntA2 y) (hz : GIntA2 z) (k : Nat) : ∀ y ∈ xs.set k z, GIntA2 y := fun y hy => by
  rcases List.mem_or_eq_of_mem_set hy with hy | rfl
  · exact h y hy
  · exact hz
theorem gI2_of {a b : Int} (ha : -1000 ≤ a ∧ a ≤ 1000) (hb : -1000 ≤ b ∧ b ≤ 1000) : GIntA2 ⟨a, b⟩ := by unfold GIntA2 In64; dsimp only; omega

theorem frame_c (bc : Nat) (a : Option Addr) (lc capc : Nat) (at_ s : Int) (D : List Nat) (w : World) (h0 : Hp ⟨w, D⟩ [(some bc, 109, [.slice a lc capc, .int .i64 at_, .int .u64 s])] w) (hcd : CodeOk w D a lc) (hat : 0 ≤ at_ ∧ at_ ≤ 1000000000) : Calls Try.prog 118 ([.pointer (some ⟨bc, 0, none⟩)]).toArray w (fun e w' => ∃ j : (Int × Int × Option Nat × Nat × List Value × List IntA2) × Int × Int, (((-10 ≤ j.1.1 ∧ j.1.1 ≤ 10) ∧ (-10 ≤ j.1.2.1 ∧ j.1.2.1 ≤ 10) ∧ Sl 2 j.1.2.2.1 j.1.2.2.2.2.2.length j.1.2.2.2.1 (flat encIntA2 j.1.2.2.2.2.2) j.1.2.2.2.2.1 ∧ (1 ≤ j.1.2.2.2.2.2.length ∧ j.1.2.2.2.2.2.length ≤ 10) ∧ (∀ y ∈ j.1.2.2.2.2.2, GIntA2 y)) ∧ at_ ≤ j.2.1 ∧ j.2.1 ≤ at_ + 120) ∧ e = .returned (.agg [.int .i64 j.1.1, .int .i64 j.1.2.1, sv j.1.2.2.1 j.1.2.2.2.2.2.length j.1.2.2.2.1].toArray) ∧ Hp ⟨w, D⟩ [(some bc, 109, [.slice a lc capc, .int .i64 j.2.1, .int .u64 j.2.2]), (j.1.2.2.1, 81, flat encIntA2 j.1.2.2.2.2.2 ++ j.1.2.2.2.2.1)] w') := by
  refine calls_ctds h0 Try.func118 Try.ntmps118 rfl rfl ?_
  refine ct_seq ?_
  refine ct_reg ?_
  refine rl_alloc ze26 rfl (fun N1 => ?_)
  refine rl_nil ?_
  refine at_then ?_
  refine ct_seq ?_
  refine ct_reg ?_
  refine rl_val gw_none (ov_move rfl) rfl ?_
  refine rl_calld (ι := (Int) × Int × Int) (fun j => .int .i64 j.1) [_] [_] (fun j => [(_, 109, [_, .int .i64 j.2.1, .int .u64 j.2.2])]) (fun j => (0 ≤ j.1 ∧ (j.1 < _ ∨ j.1 = 0)) ∧ _ ≤ j.2.1 ∧ j.2.1 ≤ _ + 2) gw_none goes120 rfl (fun _ hq => (hq).pull 1 rfl) (fun w1 hp h0 => pick_c _ _ _ _ _ _ _ _ _ h0 (hcd.call hp (by simp)) (by omega) (by omega)) rfl (fun ju hju => ?_)
  obtain ⟨vu, tu, su⟩ := ju
  dsimp only at hju
  try dsimp only
  refine rl_val gw_none (ov_add rfl rfl (by omega)) rfl ?_
  refine rl_val gw_none (ov_move rfl) rfl ?_
  refine rl_calld (ι := (Int) × Int × Int) (fun j => .int .i64 j.1) [_] [_] (fun j => [(_, 109, [_, .int .i64 j.2.1, .int .u64 j.2.2])]) (fun j => (0 ≤ j.1 ∧ (j.1 < _ ∨ j.1 = 0)) ∧ _ ≤ j.2.1 ∧ j.2.1 ≤ _ + 2) gw_none goes120 rfl (fun _ hq => (hq).pull 0 rfl) (fun w1 hp h0 => pick_c _ _ _ _ _ _ _ _ _ h0 (hcd.call hp (by simp)) (by omega) (by omega)) rfl (fun jl hjl => ?_)
  obtain ⟨vl, tl, sl⟩ := jl
  dsimp only at hjl
  try dsimp only
  refine rl_val gw_none (ov_add rfl rfl (by omega)) rfl ?_
  refine rl_bslice Try.underlying22 ze81 sz81 rfl rfl rfl rfl rfl rfl (fun N2 => ?_)
  refine rl_val gw_none (ov_build rfl (bu26_0_1_2 _ _ _ _ _)) rfl ?_
  refine rl_alloc ze26 rfl (fun N3 => ?_)
  refine rl_store [] sz26 rfl rfl rfl rfl rfl (Nat.le_of_ble_eq_true rfl) ?_
  refine rl_nil ?_
  refine at_then ?_
  refine ct_seq ?_
  refine ct_seq ?_
  refine ct_reg ?_
  refine rl_val gw_none (ov_move rfl) rfl ?_
  refine rl_calld (ι := (Int) × Int × Int) (fun j => .int .i64 j.1) [_] [_, _, _] (fun j => [(_, 109, [_, .int .i64 j.2.1, .int .u64 j.2.2])]) (fun j => (0 ≤ j.1 ∧ (j.1 < _ ∨ j.1 = 0)) ∧ _ ≤ j.2.1 ∧ j.2.1 ≤ _ + 2) gw_none goes120 rfl (fun _ hq => (hq).pull 2 rfl) (fun w1 hp h0 => pick_c _ _ _ _ _ _ _ _ _ h0 (hcd.call hp (by simp)) (by omega) (by omega)) rfl (fun jn hjn => ?_)
  obtain ⟨vn, tn, sn⟩ := jn
  dsimp only at hjn
  try dsimp only
  refine rl_val gw_none (ov_add rfl rfl (by omega)) rfl ?_
  refine rl_val gw_none (ov_assign rfl) rfl ?_
  refine rl_nil ?_
  refine at_then ?_
  refine ct_block ?_
  refine ct_loopR (ι := Nat × (Option Nat × Nat × List Value × List IntA2) × Int × Int) (fun p0 => [(4, .int .i64 p0.1)]) [(0, _), (2, _), (3, _)] (fun p0 => [(some bc, 109, [.slice a lc capc, .int .i64 p0.2.2.1, .int .u64 p0.2.2.2]), (some N3, 26, [.int .i64 (1 + vu), .int .i64 (4 + vl), sv p0.2.1.1 p0.2.1.2.2.2.length p0.2.1.2.1]), (p0.2.1.1, 81, flat encIntA2 p0.2.1.2.2.2 ++ p0.2.1.2.2.1), _]) (fun p0 => Sl 2 p0.2.1.1 p0.2.1.2.2.2.length p0.2.1.2.1 (flat encIntA2 p0.2.1.2.2.2) p0.2.1.2.2.1 ∧ (∀ y ∈ p0.2.1.2.2.2, GIntA2 y) ∧ (1 ≤ p0.2.1.2.2.2.length + p0.1 ∧ p0.2.1.2.2.2.length + p0.1 ≤ 5) ∧ at_ ≤ p0.2.2.1 ∧ p0.2.2.1 + 10 * p0.1 ≤ at_ + 70) (fun p0 => p0.1) (((1 + vn).toNat, (some N2, 0, [], []), tn, sn)) (Sub.cons rfl (Sub.cons rfl (Sub.cons rfl Sub.nil))) (fun _ hp => ((Hp.sub (Hp.pull (Hp.pull (Hp.pull (Hp.pull hp 3 rfl) 3 rfl) 3 rfl) 3 rfl) (List.sublist_append_left [_, _, _, _] _))).cong rfl) (by (repeat' (first | exact Sub.nil | refine Sub.cons ?_ ?_)); all_goals (first | rfl | exact lkInt rfl (by dsimp only; omega))) ⟨Sl.lit rfl (Nat.zero_le _), (fun y hy => by cases hy), by simp; omega, by dsimp only; omega, by dsimp only; omega⟩ (fun p0 hp0 => ?_)
  obtain ⟨k, ⟨bo, cap, pad, xs⟩, at2, s2⟩ := p0
  obtain ⟨hsl, hG, hxk, hat1, hat2⟩ := hp0
  dsimp only at hsl hG hxk hat1 hat2 ⊢
  refine ct_seq ?_
  refine ct_seq ?_
  refine ct_reg ?_
  refine rl_val gw_none (ov_move rfl) rfl ?_
  refine rl_val gw_none (ov_gtr rfl rfl) rfl ?_
  refine rl_nil ?_
  refine at_then ?_
  first | refine ct_dec rfl (fun h1 => ?_) (fun h1 => ?_) | refine ct_ndec rfl (fun h1 => ?_) (fun h1 => ?_) | refine ct_eq rfl (fun h1 => ?_) (fun h1 => ?_) | refine ct_ne rfl (fun h1 => ?_) (fun h1 => ?_) | refine ct_not rfl (fun h1 => ?_) (fun h1 => ?_) | refine ct_cond rfl (fun h1 => ?_) (fun h1 => ?_)
  ·
    refine ct_skip ?_
    refine at_then ?_
    refine ct_seq ?_
    refine ct_block ?_
    refine ct_fl 14 [0, 1, 2, 3, 4, 5, 7, 8, 9, 10, 6, 11, 12, 13, 14, 15, 16] ⟨0, [10, 11, 13], [10, 11], [], [4], [1, 8]⟩ (fun q => ⟨0, [], fun _ => undef⟩) (by kernel_rfl) (by kernel_rfl) ?_
    refine qf_mark True.intro ?_
    refine qg_val rfl gw_none (fun _ => (ov_field fo26_2 rfl)) rfl ?_
    refine qf_step rfl ?_
    first | refine qg_vall 1 rfl rfl rfl gw_none (ov_load 0 sc22 rfl rfl rfl) rfl ?_ | refine qg_vall 1 rfl rfl rfl gw_none (ov_load 0 sc22 rfl rfl (by assumption)) rfl ?_
    refine qf_step rfl ?_
    refine qg_val rfl gw_none (fun _ => (ov_move rfl)) rfl ?_
    refine qf_step rfl ?_
    refine qg_val rfl gw_none (fun _ => (ov_field fo26_0 rfl)) rfl ?_
    refine qf_step rfl ?_
    first | refine qg_valm rfl rfl gw_none (ov_load 1 sc3 rfl rfl rfl) rfl ?_ | refine qg_valm rfl rfl gw_none (ov_load 1 sc3 rfl rfl (by assumption)) rfl ?_
    refine qf_step rfl ?_
    refine qg_val rfl gw_none (fun _ => (ov_add rfl rfl (by omega))) rfl ?_
    refine qf_step rfl ?_
    refine qg_val rfl gw_none (fun _ => (ov_move rfl)) rfl ?_
    refine qf_step rfl ?_
    refine qg_val rfl gw_none (fun _ => (ov_field fo26_1 rfl)) rfl ?_
    refine qf_step rfl ?_
    first | refine qg_vall 1 rfl rfl rfl gw_none (ov_load 0 sc3 rfl rfl rfl) rfl ?_ | refine qg_vall 1 rfl rfl rfl gw_none (ov_load 0 sc3 rfl rfl (by assumption)) rfl ?_
    refine qf_step rfl ?_
    refine qg_val rfl gw_none (fun _ => (ov_add rfl rfl (by omega))) rfl ?_
    refine qf_step rfl ?_
    refine qg_calld (ι := (Int) × Int × Int) (fun j => .int .i64 j.1) [_] [_, _, _] (fun j => [(_, 109, [_, .int .i64 j.2.1, .int .u64 j.2.2])]) (fun j => (0 ≤ j.1 ∧ (j.1 < _ ∨ j.1 = 0)) ∧ _ ≤ j.2.1 ∧ j.2.1 ≤ _ + 2) rfl rfl rfl (fun _ _ => ⟨⟨1, rfl⟩, ⟨⟨1, rfl⟩, True.intro⟩⟩) goes120 rfl (fun _ _ hq => (hq).pull 0 rfl) (fun w1 hp h0 => pick_c _ _ _ _ _ _ _ _ _ h0 (hcd.call hp (by simp)) (by omega) (by omega)) rfl (fun ja hja => ?_)
    obtain ⟨va, ta, sa⟩ := ja
    dsimp only at hja
    try dsimp only
    refine qf_step rfl ?_
    refine qg_calld (ι := (Int) × Int × Int) (fun j => .int .i64 j.1) [_] [_, _, _] (fun j => [(_, 109, [_, .int .i64 j.2.1, .int .u64 j.2.2])]) (fun j => (0 ≤ j.1 ∧ (j.1 < _ ∨ j.1 = 0)) ∧ _ ≤ j.2.1 ∧ j.2.1 ≤ _ + 2) rfl rfl rfl (fun _ _ => ⟨⟨1, rfl⟩, ⟨⟨1, rfl⟩, True.intro⟩⟩) goes120 rfl (fun _ _ hq => (hq).pull 0 rfl) (fun w1 hp h0 => pick_c _ _ _ _ _ _ _ _ _ h0 (hcd.call hp (by simp)) (by omega) (by omega)) rfl (fun jb hjb => ?_)
    obtain ⟨vb, tb, sb⟩ := jb
    dsimp only at hjb
    try dsimp only
    refine qf_step rfl ?_
    refine qg_val rfl gw_none (fun _ => (ov_build rfl (bu81_0_1 _ _))) rfl ?_
    refine qf_step rfl ?_
    refine qg_bslice rfl rfl rfl Try.underlying22 ze81 sz81 rfl rfl rfl rfl rfl rfl (fun N4 => ?_)
    refine qf_nil ?_
    refine rl_appT (flat encIntA2) ((flat_append _)) [_, _, _] (acc := xs) Try.underlying22 ze81 sz81 rfl rfl by81 rfl rfl rfl hsl ([(⟨va, vb⟩ : IntA2)]) rfl (fun w1 hp => hp.sr1 0 rfl rfl (by decide)) (flat_one encIntA2_one _) (by unfold maxLen; omega) (by omega) rfl (fun boq1 capq1 padq1 hsq1 => ?_)
    refine rl_val gw_none (ov_field fo26_2 rfl) rfl ?_
    refine rl_store [_, _] sz22 rfl rfl rfl rfl rfl (Nat.le_of_ble_eq_true rfl) ?_
    refine rl_nil ?_
    refine at_block ?_
    refine at_then ?_
    refine ct_reg ?_
    refine rl_val gw_none (ov_move rfl) rfl ?_
    refine rl_val gw_none (ov_sub rfl rfl (by omega)) rfl ?_
    refine rl_val gw_none (ov_assign rfl) rfl ?_
    refine rl_nil ?_
    exact at_backR (k - 1, (boq1, capq1, padq1, xs ++ [⟨va, vb⟩]), _, _) ⟨hsq1, gI2_snoc hG (gI2_of (a := va) (b := vb) (by omega) (by omega)), by simp; omega, by dsimp only; omega, by dsimp only; omega⟩ (by dsimp only; omega) (by (repeat' (first | exact Sub.nil | refine Sub.cons ?_ ?_)); all_goals (first | rfl | exact lkInt rfl (by dsimp only; omega))) (Sub.cons rfl (Sub.cons rfl (Sub.cons rfl Sub.nil))) (fun _ hp => ((Hp.sub (Hp.pull (Hp.pull (Hp.pull (Hp.pull hp 4 rfl) 4 rfl) 4 rfl) 4 rfl) (List.sublist_append_left [_, _, _, _] _))).cong rfl)
  ·
    have hx1 : 1 ≤ xs.length ∧ xs.length ≤ 5 := by omega
    obtain ⟨b0, rfl⟩ := slSomeG hsl (by omega)
    refine ct_exit ?_
    refine at_then_exit ?_
    refine at_then_exit ?_
    refine at_block_hit ?_
    refine at_then ?_
    refine ct_seq ?_
    refine ct_seq ?_
    refine ct_reg ?_
    refine rl_val gw_none (ov_move rfl) rfl ?_
    refine rl_calld (ι := (Int) × Int × Int) (fun j => .int .i64 j.1) [_] [_, _, _] (fun j => [(_, 109, [_, .int .i64 j.2.1, .int .u64 j.2.2])]) (fun j => (0 ≤ j.1 ∧ (j.1 < _ ∨ j.1 = 0)) ∧ _ ≤ j.2.1 ∧ j.2.1 ≤ _ + 2) gw_none goes120 rfl (fun _ hq => (hq).pull 0 rfl) (fun w1 hp h0 => pick_c _ _ _ _ _ _ _ _ _ h0 (hcd.call hp (by simp)) (by omega) (by omega)) rfl (fun jsw hjsw => ?_)
    obtain ⟨vsw, tsw, ssw⟩ := jsw
    dsimp only at hjsw
    try dsimp only
    refine rl_nil ?_
    refine at_then ?_
    refine ct_block ?_
    refine ct_seq ?_
    refine ct_reg ?_
    refine rl_val gw_none (ov_eql rfl rfl) rfl ?_
    refine rl_val gw_none (ov_assign rfl) rfl ?_
    refine rl_nil ?_
    refine at_then ?_
    first | refine ct_dec rfl (fun h2 => ?_) (fun h2 => ?_) | refine ct_ndec rfl (fun h2 => ?_) (fun h2 => ?_) | refine ct_eq rfl (fun h2 => ?_) (fun h2 => ?_) | refine ct_ne rfl (fun h2 => ?_) (fun h2 => ?_) | refine ct_not rfl (fun h2 => ?_) (fun h2 => ?_) | refine ct_cond rfl (fun h2 => ?_) (fun h2 => ?_)
    ·
      refine ct_fl 9 [0, 1, 2, 5, 3, 4, 6, 7, 8, 9, 10] ⟨4, [5, 7], [5, 7], [4, 6], [], [1]⟩ (fun q => if q = 4 then (⟨3, [.int .i64 (-1), .int .i64 0, .int .i64 3], fun N => sv (some N) 3 3⟩ : Soft) else if q = 6 then (⟨3, [.int .i64 (-1), .int .i64 0, .int .i64 6], fun N => sv (some N) 3 3⟩ : Soft) else ⟨0, [], fun _ => undef⟩) (by kernel_rfl) (by kernel_rfl) ?_
      refine qf_step rfl ?_
      refine qg_val rfl gw_none (fun _ => (ov_field fo26_2 rfl)) rfl ?_
      refine qf_step rfl ?_
      first | refine qg_vall 1 rfl rfl rfl gw_none (ov_load 0 sc22 rfl rfl rfl) rfl ?_ | refine qg_vall 1 rfl rfl rfl gw_none (ov_load 0 sc22 rfl rfl (by assumption)) rfl ?_
      refine qf_step rfl ?_
      refine qg_val rfl gw_none (fun _ => (ov_move rfl)) rfl ?_
      refine qf_step rfl ?_
      refine qg_val rfl gw_none (fun _ => (ov_move rfl)) rfl ?_
      refine qf_mark ⟨⟨0, rfl, soft_bslice rfl rfl Try.underlying27 ze3 sz3 rfl rfl rfl rfl rfl rfl rfl⟩, ⟨⟨2, rfl, soft_bslice rfl rfl Try.underlying27 ze3 sz3 rfl rfl rfl rfl rfl rfl rfl⟩, True.intro⟩⟩ ?_
      refine qg_soft rfl rfl rfl (fun N5 => ?_)
      refine qf_step rfl ?_
      refine qg_calld (ι := (Int) × Int × Int) (fun j => .int .i64 j.1) [_, _] [_, _, _] (fun j => [(_, 109, [_, .int .i64 j.2.1, .int .u64 j.2.2])]) (fun j => ((-10) ≤ j.1 ∧ j.1 ≤ 10) ∧ _ ≤ j.2.1 ∧ j.2.1 ≤ _ + 2) rfl rfl rfl (fun _ _ => ⟨⟨1, rfl⟩, True.intro⟩) goes111 rfl (fun _ _ hq => ((hq).pull 0 rfl).pull 1 rfl) (fun w1 hp h0 => among_c (-10) 10 _ _ _ _ _ _ _ _ _ _ _ _ h0 (hcd.call hp (by simp)) (by omega) (by first | rfl | decide | (simp [okIntsR]; done) | (simp [okIntsR]; omega) | (simp [okIntsR, Value.cells]; omega)) (by first | decide | (simp; done) | (simp; omega) | omega | (simp [Value.cells]; done) | (simp [Value.cells]; omega))) rfl (fun jx hjx => ?_)
      obtain ⟨vx, tx, sx⟩ := jx
      dsimp only at hjx
      try dsimp only
      refine qf_step rfl ?_
      refine qg_soft rfl rfl rfl (fun N6 => ?_)
      refine qf_step rfl ?_
      refine qg_calld (ι := (Int) × Int × Int) (fun j => .int .i64 j.1) [_, _] [_, _, _] (fun j => [(_, 109, [_, .int .i64 j.2.1, .int .u64 j.2.2])]) (fun j => ((-10) ≤ j.1 ∧ j.1 ≤ 10) ∧ _ ≤ j.2.1 ∧ j.2.1 ≤ _ + 2) rfl rfl rfl (fun _ _ => ⟨⟨1, rfl⟩, True.intro⟩) goes111 rfl (fun _ _ hq => ((hq).pull 0 rfl).pull 1 rfl) (fun w1 hp h0 => among_c (-10) 10 _ _ _ _ _ _ _ _ _ _ _ _ h0 (hcd.call hp (by simp)) (by omega) (by first | rfl | decide | (simp [okIntsR]; done) | (simp [okIntsR]; omega) | (simp [okIntsR, Value.cells]; omega)) (by first | decide | (simp; done) | (simp; omega) | omega | (simp [Value.cells]; done) | (simp [Value.cells]; omega))) rfl (fun jy hjy => ?_)
      obtain ⟨vy, ty, sy⟩ := jy
      dsimp only at hjy
      try dsimp only
      refine qf_step rfl ?_
      refine qg_val rfl gw_none (fun _ => (ov_build rfl (bu81_0_1 _ _))) rfl ?_
      refine qf_nil ?_
      first | refine rl_val gw_none (ov_ix Try.underlying22 sz81 rfl rfl _ rfl (by omega)) rfl ?_ | refine rl_val gw_none (ov_ix Try.underlying22 sz81 rfl rfl (0) (by omega) (by omega)) rfl ?_
      refine rl_store [_, _] sz81 rfl rfl rfl rfl rfl (by rw [List.length_append, flat_length encIntA2_len]; omega) ?_
      refine rl_mem (fun _ hq => hq.cong (congrArg (fun x => _ :: _ :: (_, _, x) :: _) (flatPutG encIntA2_len (x := ⟨vx, vy⟩) _ (by omega)))) ?_
      refine rl_nil ?_
      refine at_block ?_
      refine at_then ?_
      refine ct_seq ?_
      refine ct_reg ?_
      first | refine rl_val gw_none (ov_loadall 1 ag26 rfl rfl rfl) rfl ?_ | refine rl_val gw_none (ov_loadp 1 ag26 rfl rfl (vs := [_, _, _]) rfl rfl) rfl ?_ | refine rl_val gw_none (ov_loada 1 ag26 rfl rfl rfl (by assumption)) rfl ?_
      refine rl_store [_, _, _] sz26 rfl rfl rfl rfl rfl (Nat.le_of_ble_eq_true rfl) ?_
      refine rl_nil ?_
      refine at_then ?_
      refine ct_ret ?_
      refine at_ret1 Try.results118 (ro_cell 3 ag26 rfl rfl rfl) (fun w1 hp => ?_)
      exact ⟨((1 + vu, 4 + vl, some b0, cap, pad, xs.set 0 ⟨vx, vy⟩), _, _), ⟨⟨by dsimp only; omega, by dsimp only; omega, (slSameG encIntA2_len hsl (by simp)), (by have hls : (xs.set 0 (⟨0, 0⟩ : IntA2)).length = xs.length := List.length_set; have hls2 : ∀ z : IntA2, (xs.set 0 z).length = xs.length := fun z => List.length_set; first | omega | (dsimp only; omega) | (dsimp only; simp only [hls2]; omega)), (gI2_set hG (gI2_of (a := vx) (b := vy) (by omega) (by omega)) 0)⟩, by dsimp only; omega, by dsimp only; omega⟩, by dsimp only; rw [List.length_set]; rfl, (Hp.sub (Hp.pull (Hp.pull hp 2 rfl) 1 rfl) (List.sublist_append_left [_, _] _))⟩
    ·
      refine ct_seq ?_
      refine ct_reg ?_
      refine rl_val gw_none (ov_eql rfl rfl) rfl ?_
      refine rl_val gw_none (ov_assign rfl) rfl ?_
      refine rl_nil ?_
      refine at_then ?_
      first | refine ct_dec rfl (fun h3 => ?_) (fun h3 => ?_) | refine ct_ndec rfl (fun h3 => ?_) (fun h3 => ?_) | refine ct_eq rfl (fun h3 => ?_) (fun h3 => ?_) | refine ct_ne rfl (fun h3 => ?_) (fun h3 => ?_) | refine ct_not rfl (fun h3 => ?_) (fun h3 => ?_) | refine ct_cond rfl (fun h3 => ?_) (fun h3 => ?_)
      ·
        refine ct_reg ?_
        refine rl_val gw_none (ov_move rfl) rfl ?_
        refine rl_bslice Try.underlying27 ze3 sz3 rfl rfl rfl rfl rfl rfl (fun N7 => ?_)
        refine rl_calld (ι := (Int) × Int × Int) (fun j => .int .i64 j.1) [_, _] [_, _, _] (fun j => [(_, 109, [_, .int .i64 j.2.1, .int .u64 j.2.2])]) (fun j => ((-10) ≤ j.1 ∧ j.1 ≤ 10) ∧ _ ≤ j.2.1 ∧ j.2.1 ≤ _ + 2) gw_none goes111 rfl (fun _ hq => ((hq).pull 0 rfl).pull 1 rfl) (fun w1 hp h0 => among_c (-10) 10 _ _ _ _ _ _ _ _ _ _ _ _ h0 (hcd.call hp (by simp)) (by omega) (by first | rfl | decide | (simp [okIntsR]; done) | (simp [okIntsR]; omega) | (simp [okIntsR, Value.cells]; omega)) (by first | decide | (simp; done) | (simp; omega) | omega | (simp [Value.cells]; done) | (simp [Value.cells]; omega))) rfl (fun jx hjx => ?_)
        obtain ⟨vx, tx, sx⟩ := jx
        dsimp only at hjx
        try dsimp only
        refine rl_val gw_none (ov_field fo26_0 rfl) rfl ?_
        refine rl_store [_] sz3 rfl rfl rfl rfl rfl (Nat.le_of_ble_eq_true rfl) ?_
        refine rl_nil ?_
        refine at_block ?_
        refine at_then ?_
        refine ct_seq ?_
        refine ct_reg ?_
        first | refine rl_val gw_none (ov_loadall 1 ag26 rfl rfl rfl) rfl ?_ | refine rl_val gw_none (ov_loadp 1 ag26 rfl rfl (vs := [_, _, _]) rfl rfl) rfl ?_ | refine rl_val gw_none (ov_loada 1 ag26 rfl rfl rfl (by assumption)) rfl ?_
        refine rl_store [_, _, _] sz26 rfl rfl rfl rfl rfl (Nat.le_of_ble_eq_true rfl) ?_
        refine rl_nil ?_
        refine at_then ?_
        refine ct_ret ?_
        refine at_ret1 Try.results118 (ro_cell 3 ag26 rfl rfl rfl) (fun w1 hp => ?_)
        exact ⟨((vx, 4 + vl, some b0, cap, pad, xs), _, _), ⟨⟨by dsimp only; omega, by dsimp only; omega, hsl, (by have hls : (xs.set 0 (⟨0, 0⟩ : IntA2)).length = xs.length := List.length_set; have hls2 : ∀ z : IntA2, (xs.set 0 z).length = xs.length := fun z => List.length_set; first | omega | (dsimp only; omega) | (dsimp only; simp only [hls2]; omega)), hG⟩, by dsimp only; omega, by dsimp only; omega⟩, rfl, (Hp.sub (Hp.pull (Hp.pull hp 2 rfl) 1 rfl) (List.sublist_append_left [_, _] _))⟩
      ·
        refine ct_seq ?_
        refine ct_reg ?_
        refine rl_val gw_none (ov_eql rfl rfl) rfl ?_
        refine rl_val gw_none (ov_assign rfl) rfl ?_
        refine rl_nil ?_
        refine at_then ?_
        first | refine ct_dec rfl (fun h4 => ?_) (fun h4 => ?_) | refine ct_ndec rfl (fun h4 => ?_) (fun h4 => ?_) | refine ct_eq rfl (fun h4 => ?_) (fun h4 => ?_) | refine ct_ne rfl (fun h4 => ?_) (fun h4 => ?_) | refine ct_not rfl (fun h4 => ?_) (fun h4 => ?_) | refine ct_cond rfl (fun h4 => ?_) (fun h4 => ?_)
        ·
          refine ct_reg ?_
          refine rl_val gw_none (ov_move rfl) rfl ?_
          refine rl_bslice Try.underlying27 ze3 sz3 rfl rfl rfl rfl rfl rfl (fun N8 => ?_)
          refine rl_calld (ι := (Int) × Int × Int) (fun j => .int .i64 j.1) [_, _] [_, _, _] (fun j => [(_, 109, [_, .int .i64 j.2.1, .int .u64 j.2.2])]) (fun j => ((-10) ≤ j.1 ∧ j.1 ≤ 10) ∧ _ ≤ j.2.1 ∧ j.2.1 ≤ _ + 2) gw_none goes111 rfl (fun _ hq => ((hq).pull 0 rfl).pull 1 rfl) (fun w1 hp h0 => among_c (-10) 10 _ _ _ _ _ _ _ _ _ _ _ _ h0 (hcd.call hp (by simp)) (by omega) (by first | rfl | decide | (simp [okIntsR]; done) | (simp [okIntsR]; omega) | (simp [okIntsR, Value.cells]; omega)) (by first | decide | (simp; done) | (simp; omega) | omega | (simp [Value.cells]; done) | (simp [Value.cells]; omega))) rfl (fun jx hjx => ?_)
          obtain ⟨vx, tx, sx⟩ := jx
          dsimp only at hjx
          try dsimp only
          refine rl_val gw_none (ov_field fo26_1 rfl) rfl ?_
          refine rl_store [_] sz3 rfl rfl rfl rfl rfl (Nat.le_of_ble_eq_true rfl) ?_
          refine rl_nil ?_
          refine at_block ?_
          refine at_then ?_
          refine ct_seq ?_
          refine ct_reg ?_
          first | refine rl_val gw_none (ov_loadall 1 ag26 rfl rfl rfl) rfl ?_ | refine rl_val gw_none (ov_loadp 1 ag26 rfl rfl (vs := [_, _, _]) rfl rfl) rfl ?_ | refine rl_val gw_none (ov_loada 1 ag26 rfl rfl rfl (by assumption)) rfl ?_
          refine rl_store [_, _, _] sz26 rfl rfl rfl rfl rfl (Nat.le_of_ble_eq_true rfl) ?_
          refine rl_nil ?_
          refine at_then ?_
          refine ct_ret ?_
          refine at_ret1 Try.results118 (ro_cell 3 ag26 rfl rfl rfl) (fun w1 hp => ?_)
          exact ⟨((1 + vu, vx, some b0, cap, pad, xs), _, _), ⟨⟨by dsimp only; omega, by dsimp only; omega, hsl, (by have hls : (xs.set 0 (⟨0, 0⟩ : IntA2)).length = xs.length := List.length_set; have hls2 : ∀ z : IntA2, (xs.set 0 z).length = xs.length := fun z => List.length_set; first | omega | (dsimp only; omega) | (dsimp only; simp only [hls2]; omega)), hG⟩, by dsimp only; omega, by dsimp only; omega⟩, rfl, (Hp.sub (Hp.pull (Hp.pull hp 2 rfl) 1 rfl) (List.sublist_append_left [_, _] _))⟩
        ·
          refine ct_seq ?_
          refine ct_reg ?_
          refine rl_val gw_none (ov_eql rfl rfl) rfl ?_
          refine rl_val gw_none (ov_assign rfl) rfl ?_
          refine rl_nil ?_
          refine at_then ?_
          first | refine ct_dec rfl (fun h5 => ?_) (fun h5 => ?_) | refine ct_ndec rfl (fun h5 => ?_) (fun h5 => ?_) | refine ct_eq rfl (fun h5 => ?_) (fun h5 => ?_) | refine ct_ne rfl (fun h5 => ?_) (fun h5 => ?_) | refine ct_not rfl (fun h5 => ?_) (fun h5 => ?_) | refine ct_cond rfl (fun h5 => ?_) (fun h5 => ?_)
          ·
            refine ct_block ?_
            refine ct_loopR (ι := (Option Nat × Nat × List Value × List IntA2) × Int × Int) (fun p1 => []) [(0, _), (2, _), (3, _)] (fun p1 => [(some bc, 109, [.slice a lc capc, .int .i64 p1.2.1, .int .u64 p1.2.2]), (some N3, 26, [.int .i64 (1 + vu), .int .i64 (4 + vl), sv p1.1.1 p1.1.2.2.2.length p1.1.2.1]), (p1.1.1, 81, flat encIntA2 p1.1.2.2.2 ++ p1.1.2.2.1), _]) (fun p1 => Sl 2 p1.1.1 p1.1.2.2.2.length p1.1.2.1 (flat encIntA2 p1.1.2.2.2) p1.1.2.2.1 ∧ (∀ y ∈ p1.1.2.2.2, GIntA2 y) ∧ (1 ≤ p1.1.2.2.2.length ∧ p1.1.2.2.2.length ≤ 9) ∧ at_ ≤ p1.2.1 ∧ p1.2.1 ≤ at_ + 80 + 2 * p1.1.2.2.2.length) (fun p1 => 20 - p1.1.2.2.2.length) (((some b0, cap, pad, xs), _, _)) (Sub.cons rfl (Sub.cons rfl (Sub.cons rfl Sub.nil))) (fun _ hp => ((Hp.sub (Hp.pull (Hp.pull (Hp.pull (Hp.pull hp 3 rfl) 3 rfl) 3 rfl) 3 rfl) (List.sublist_append_left [_, _, _, _] _))).cong rfl) (by (repeat' (first | exact Sub.nil | refine Sub.cons ?_ ?_)); all_goals (first | rfl | exact lkInt rfl (by omega))) ⟨hsl, hG, by dsimp only; omega, by dsimp only; omega, by dsimp only; omega⟩ (fun p1 hp1 => ?_)
            obtain ⟨⟨bo2, cap2, pad2, ys⟩, at3, s3⟩ := p1
            obtain ⟨hsl2, hG2, hy9, hat3, hat4⟩ := hp1
            dsimp only at hsl2 hG2 hy9 hat3 hat4 ⊢
            refine ct_seq ?_
            refine ct_seq ?_
            refine ct_fl 6 [0, 1, 2, 3, 4, 5, 6] ⟨0, [4], [4], [], [], [1]⟩ (fun q => ⟨0, [], fun _ => undef⟩) (by kernel_rfl) (by kernel_rfl) ?_
            refine qf_mark True.intro ?_
            refine qg_val rfl gw_none (fun _ => (ov_field fo26_2 rfl)) rfl ?_
            refine qf_step rfl ?_
            first | refine qg_vall 1 rfl rfl rfl gw_none (ov_load 0 sc22 rfl rfl rfl) rfl ?_ | refine qg_vall 1 rfl rfl rfl gw_none (ov_load 0 sc22 rfl rfl (by assumption)) rfl ?_
            refine qf_step rfl ?_
            refine qg_val rfl gw_none (fun _ => (ov_len Try.underlying22 rfl)) rfl ?_
            refine qf_step rfl ?_
            refine qg_val rfl gw_none (fun _ => (ov_move rfl)) rfl ?_
            refine qf_step rfl ?_
            refine qg_calld (ι := (Int) × Int × Int) (fun j => .int .i64 j.1) [_] [_, _, _] (fun j => [(_, 109, [_, .int .i64 j.2.1, .int .u64 j.2.2])]) (fun j => (0 ≤ j.1 ∧ (j.1 < _ ∨ j.1 = 0)) ∧ _ ≤ j.2.1 ∧ j.2.1 ≤ _ + 2) rfl rfl rfl (fun _ _ => ⟨⟨1, rfl⟩, True.intro⟩) goes120 rfl (fun _ _ hq => (hq).pull 0 rfl) (fun w1 hp h0 => pick_c _ _ _ _ _ _ _ _ _ h0 (hcd.call hp (by simp)) (by omega) (by omega)) rfl (fun jz hjz => ?_)
            obtain ⟨vz, tz, sz⟩ := jz
            dsimp only at hjz
            try dsimp only
            refine qf_step rfl ?_
            refine qg_val rfl gw_none (fun _ => (ov_add rfl rfl (by omega))) rfl ?_
            refine qf_nil ?_
            refine rl_val gw_none (ov_lss rfl rfl) rfl ?_
            refine rl_nil ?_
            refine at_then ?_
            first | refine ct_dec rfl (fun h6 => ?_) (fun h6 => ?_) | refine ct_ndec rfl (fun h6 => ?_) (fun h6 => ?_) | refine ct_eq rfl (fun h6 => ?_) (fun h6 => ?_) | refine ct_ne rfl (fun h6 => ?_) (fun h6 => ?_) | refine ct_not rfl (fun h6 => ?_) (fun h6 => ?_) | refine ct_cond rfl (fun h6 => ?_) (fun h6 => ?_)
            ·
              refine ct_skip ?_
              refine at_then ?_
              refine ct_block ?_
              refine ct_reg ?_
              refine rl_val gw_none (ov_field fo26_2 rfl) rfl ?_
              first | refine rl_val gw_none (ov_load 1 sc22 rfl rfl rfl) rfl ?_ | refine rl_val gw_none (ov_load 1 sc22 rfl rfl (by assumption)) rfl ?_
              refine rl_val gw_none (ov_build rfl (bu81_0_1 _ _)) rfl ?_
              refine rl_bslice Try.underlying22 ze81 sz81 rfl rfl rfl rfl rfl rfl (fun N9 => ?_)
              refine rl_appT (flat encIntA2) ((flat_append _)) [_, _, _] (acc := ys) Try.underlying22 ze81 sz81 rfl rfl by81 rfl rfl rfl hsl2 ([(⟨1, 4⟩ : IntA2)]) rfl (fun w1 hp => hp.sr1 0 rfl rfl (by decide)) (flat_one encIntA2_one _) (by unfold maxLen; omega) (by omega) rfl (fun boq2 capq2 padq2 hsq2 => ?_)
              refine rl_val gw_none (ov_field fo26_2 rfl) rfl ?_
              refine rl_store [_, _] sz22 rfl rfl rfl rfl rfl (Nat.le_of_ble_eq_true rfl) ?_
              refine rl_nil ?_
              refine at_block ?_
              exact at_backR ((boq2, capq2, padq2, ys ++ [⟨1, 4⟩]), _, _) ⟨hsq2, gI2_snoc hG2 (gI2_of (a := 1) (b := 4) (by omega) (by omega)), by simp; omega, by dsimp only; omega, by simp; omega⟩ (by simp; omega) (by (repeat' (first | exact Sub.nil | refine Sub.cons ?_ ?_)); all_goals (first | rfl | exact lkInt rfl (by omega))) (Sub.cons rfl (Sub.cons rfl (Sub.cons rfl Sub.nil))) (fun _ hp => ((Hp.sub (Hp.pull (Hp.pull (Hp.pull (Hp.pull hp 4 rfl) 4 rfl) 4 rfl) 4 rfl) (List.sublist_append_left [_, _, _, _] _))).cong rfl)
            ·
              refine ct_exit ?_
              refine at_then_exit ?_
              refine at_then_exit ?_
              refine at_block_hit ?_
              refine at_block ?_
              refine at_then ?_
              refine ct_seq ?_
              refine ct_reg ?_
              first | refine rl_val gw_none (ov_loadall 1 ag26 rfl rfl rfl) rfl ?_ | refine rl_val gw_none (ov_loadp 1 ag26 rfl rfl (vs := [_, _, _]) rfl rfl) rfl ?_ | refine rl_val gw_none (ov_loada 1 ag26 rfl rfl rfl (by assumption)) rfl ?_
              refine rl_store [_, _, _] sz26 rfl rfl rfl rfl rfl (Nat.le_of_ble_eq_true rfl) ?_
              refine rl_nil ?_
              refine at_then ?_
              refine ct_ret ?_
              refine at_ret1 Try.results118 (ro_cell 3 ag26 rfl rfl rfl) (fun w1 hp => ?_)
              exact ⟨((1 + vu, 4 + vl, bo2, cap2, pad2, ys), _, _), ⟨⟨by dsimp only; omega, by dsimp only; omega, hsl2, (by have hls : (xs.set 0 (⟨0, 0⟩ : IntA2)).length = xs.length := List.length_set; have hls2 : ∀ z : IntA2, (xs.set 0 z).length = xs.length := fun z => List.length_set; first | omega | (dsimp only; omega) | (dsimp only; simp only [hls2]; omega)), hG2⟩, by dsimp only; omega, by dsimp only; omega⟩, rfl, (Hp.sub (Hp.pull (Hp.pull hp 2 rfl) 1 rfl) (List.sublist_append_left [_, _] _))⟩
          ·
            refine ct_skip ?_
            refine at_block ?_
            refine at_then ?_
            refine ct_seq ?_
            refine ct_reg ?_
            first | refine rl_val gw_none (ov_loadall 1 ag26 rfl rfl rfl) rfl ?_ | refine rl_val gw_none (ov_loadp 1 ag26 rfl rfl (vs := [_, _, _]) rfl rfl) rfl ?_ | refine rl_val gw_none (ov_loada 1 ag26 rfl rfl rfl (by assumption)) rfl ?_
            refine rl_store [_, _, _] sz26 rfl rfl rfl rfl rfl (Nat.le_of_ble_eq_true rfl) ?_
            refine rl_nil ?_
            refine at_then ?_
            refine ct_ret ?_
            refine at_ret1 Try.results118 (ro_cell 3 ag26 rfl rfl rfl) (fun w1 hp => ?_)
            exact ⟨((1 + vu, 4 + vl, some b0, cap, pad, xs), _, _), ⟨⟨by dsimp only; omega, by dsimp only; omega, hsl, (by have hls : (xs.set 0 (⟨0, 0⟩ : IntA2)).length = xs.length := List.length_set; have hls2 : ∀ z : IntA2, (xs.set 0 z).length = xs.length := fun z => List.length_set; first | omega | (dsimp only; omega) | (dsimp only; simp only [hls2]; omega)), hG⟩, by dsimp only; omega, by dsimp only; omega⟩, rfl, (Hp.sub (Hp.pull (Hp.pull hp 2 rfl) 1 rfl) (List.sublist_append_left [_, _] _))⟩
end Go.Proofs.Ytnnhkpecgchgiaa
