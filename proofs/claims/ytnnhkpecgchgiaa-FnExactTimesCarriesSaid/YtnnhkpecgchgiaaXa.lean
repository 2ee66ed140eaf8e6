import Derived.Test.YtnnhkpecgchgiaaTd
import Derived.Test.YtnnhkpecgchgiaaNa
import Derived.Test.YtnnhkpecgchgiaaKo
import Derived.KernelRfl
set_option linter.unusedVariables false
set_option linter.unusedSimpArgs false
namespace Go.Proofs.Ytnnhkpecgchgiaa
open Go Go.RowKit K
theorem sFrameFor_c (u : Int) (l : Int) (rods : Int) (n : Int) (w : World) (zu : In64 u) (zl : In64 l) (zrods : In64 rods) (zn : In64 n) : Calls Try.prog 49 ([.int .i64 u, .int .i64 l, .int .i64 rods, .int .i64 n]).toArray w (fun e w' => RetSl 81 2 (flat encIntA2 (frameForR u l rods n).xs) (frameForR u l rods n).xs.length (fun s => .tuple #[.agg [.int .i64 (frameForR u l rods n).u, .int .i64 (frameForR u l rods n).l, s].toArray, .bool (frameForR u l rods n).ok]) w e w') := by
  refine calls_ct Try.func49 Try.ntmps49 rfl rfl ?_
  refine ct_seq ?_
  refine ct_reg ?_
  refine rl_alloc ze26 rfl (fun N1 => ?_)
  refine rl_val gw_none (ov_assign rfl) rfl ?_
  refine rl_nil ?_
  refine at_then ?_
  refine ct_seq ?_
  refine ct_seq ?_
  refine ct_reg ?_
  refine rl_val gw_none (ov_move rfl) rfl ?_
  refine rl_callv gw_none goes116 rfl (fun w1 hp => l1In_c _ _ _ _) rfl ?_
  refine rl_val gw_none (ov_not rfl) rfl ?_
  refine rl_val gw_none (ov_move rfl) rfl ?_
  refine rl_split (t := 13) rfl (fun g1 => ?_) (fun g1 => ?_)
  ·
    have g1' := g1
    try simp only [Bool.not_eq_true', Bool.not_eq_false', Bool.not_not, decide_eq_true_eq, decide_eq_false_iff_not, beq_iff_eq, beq_eq_false_iff_ne, bne_iff_ne, bne_eq_false_iff_eq, Bool.and_eq_true, Bool.or_eq_true, Bool.and_eq_false_iff, Bool.or_eq_false_iff, inB] at g1'
    refine rl_skip (gw_not rfl rfl g1) rfl ?_
    refine rl_skip (gw_not rfl rfl g1) rfl ?_
    refine rl_skip (gw_not rfl rfl g1) rfl ?_
    refine rl_val gw_none (ov_pick_t rfl g1 rfl) rfl ?_
    refine rl_val gw_none (ov_move rfl) rfl ?_
    refine rl_skip (gw_not rfl rfl rfl) rfl ?_
    refine rl_skip (gw_not rfl rfl rfl) rfl ?_
    refine rl_skip (gw_not rfl rfl rfl) rfl ?_
    refine rl_val gw_none (ov_pick_t rfl rfl rfl) rfl ?_
    refine rl_val gw_none (ov_move rfl) rfl ?_
    refine rl_skip (gw_not rfl rfl rfl) rfl ?_
    refine rl_skip (gw_not rfl rfl rfl) rfl ?_
    refine rl_skip (gw_not rfl rfl rfl) rfl ?_
    refine rl_skip (gw_not rfl rfl rfl) rfl ?_
    refine rl_skip (gw_not rfl rfl rfl) rfl ?_
    refine rl_skip (gw_not rfl rfl rfl) rfl ?_
    refine rl_val gw_none (ov_pick_t rfl rfl rfl) rfl ?_
    refine rl_nil ?_
    refine at_then ?_
    refine ct_true rfl rfl ?_
    refine ct_seq ?_
    refine ct_reg ?_
    refine rl_val gw_none (ov_build rfl (bu26_)) rfl ?_
    refine rl_store [] sz26 rfl rfl rfl rfl rfl (Nat.le_of_ble_eq_true rfl) ?_
    refine rl_val gw_none (ov_assign rfl) rfl ?_
    refine rl_nil ?_
    refine at_then ?_
    refine ct_ret ?_
    refine at_then_ret ?_
    refine at_ret2 Try.results49 (ro_cell 0 ag26 rfl rfl rfl) (ro_tmp rfl) (fun w1 hp => ?_)
    unfold frameForR
    first | (rw [okR_no (by first | (simp_all; done) | (simp_all [inB]; done) | (simp_all [inB]; omega))]; exact RetSl.nil hp.ext0) | (rw [okR_yes (by first | (simp_all; done) | (simp_all [inB]; done) | (simp_all [inB]; omega))]; simp only [Int.toNat_natCast] at *; exact RetSl.ownL 999 hp rfl no_proof (showL_len n R).symm)
  ·
    have g1' := g1
    try simp only [Bool.not_eq_true', Bool.not_eq_false', Bool.not_not, decide_eq_true_eq, decide_eq_false_iff_not, beq_iff_eq, beq_eq_false_iff_ne, bne_iff_ne, bne_eq_false_iff_eq, Bool.and_eq_true, Bool.or_eq_true, Bool.and_eq_false_iff, Bool.or_eq_false_iff, inB] at g1'
    refine rl_val (gw_some rfl rfl g1) (ov_move rfl) rfl ?_
    refine rl_callv (gw_some rfl rfl g1) goes116 rfl (fun w1 hp => l1In_c _ _ _ _) rfl ?_
    refine rl_val (gw_some rfl rfl g1) (ov_not rfl) rfl ?_
    refine rl_val gw_none (ov_pick_f rfl g1 rfl) rfl ?_
    refine rl_val gw_none (ov_move rfl) rfl ?_
    refine rl_split (t := 18) rfl (fun g2 => ?_) (fun g2 => ?_)
    ·
      have g2' := g2
      try simp only [Bool.not_eq_true', Bool.not_eq_false', Bool.not_not, decide_eq_true_eq, decide_eq_false_iff_not, beq_iff_eq, beq_eq_false_iff_ne, bne_iff_ne, bne_eq_false_iff_eq, Bool.and_eq_true, Bool.or_eq_true, Bool.and_eq_false_iff, Bool.or_eq_false_iff, inB] at g2'
      refine rl_skip (gw_not rfl rfl g2) rfl ?_
      refine rl_skip (gw_not rfl rfl g2) rfl ?_
      refine rl_skip (gw_not rfl rfl g2) rfl ?_
      refine rl_val gw_none (ov_pick_t rfl g2 rfl) rfl ?_
      refine rl_val gw_none (ov_move rfl) rfl ?_
      refine rl_skip (gw_not rfl rfl rfl) rfl ?_
      refine rl_skip (gw_not rfl rfl rfl) rfl ?_
      refine rl_skip (gw_not rfl rfl rfl) rfl ?_
      refine rl_skip (gw_not rfl rfl rfl) rfl ?_
      refine rl_skip (gw_not rfl rfl rfl) rfl ?_
      refine rl_skip (gw_not rfl rfl rfl) rfl ?_
      refine rl_val gw_none (ov_pick_t rfl rfl rfl) rfl ?_
      refine rl_nil ?_
      refine at_then ?_
      refine ct_true rfl rfl ?_
      refine ct_seq ?_
      refine ct_reg ?_
      refine rl_val gw_none (ov_build rfl (bu26_)) rfl ?_
      refine rl_store [] sz26 rfl rfl rfl rfl rfl (Nat.le_of_ble_eq_true rfl) ?_
      refine rl_val gw_none (ov_assign rfl) rfl ?_
      refine rl_nil ?_
      refine at_then ?_
      refine ct_ret ?_
      refine at_then_ret ?_
      refine at_ret2 Try.results49 (ro_cell 0 ag26 rfl rfl rfl) (ro_tmp rfl) (fun w1 hp => ?_)
      unfold frameForR
      first | (rw [okR_no (by first | (simp_all; done) | (simp_all [inB]; done) | (simp_all [inB]; omega))]; exact RetSl.nil hp.ext0) | (rw [okR_yes (by first | (simp_all; done) | (simp_all [inB]; done) | (simp_all [inB]; omega))]; simp only [Int.toNat_natCast] at *; exact RetSl.ownL 999 hp rfl no_proof (showL_len n R).symm)
    ·
      have g2' := g2
      try simp only [Bool.not_eq_true', Bool.not_eq_false', Bool.not_not, decide_eq_true_eq, decide_eq_false_iff_not, beq_iff_eq, beq_eq_false_iff_ne, bne_iff_ne, bne_eq_false_iff_eq, Bool.and_eq_true, Bool.or_eq_true, Bool.and_eq_false_iff, Bool.or_eq_false_iff, inB] at g2'
      refine rl_val (gw_some rfl rfl g2) (ov_move rfl) rfl ?_
      refine rl_callv (gw_some rfl rfl g2) goes116 rfl (fun w1 hp => l1In_c _ _ _ _) rfl ?_
      refine rl_val (gw_some rfl rfl g2) (ov_not rfl) rfl ?_
      refine rl_val gw_none (ov_pick_f rfl g2 rfl) rfl ?_
      refine rl_val gw_none (ov_move rfl) rfl ?_
      refine rl_split (t := 23) rfl (fun g3 => ?_) (fun g3 => ?_)
      ·
        have g3' := g3
        try simp only [Bool.not_eq_true', Bool.not_eq_false', Bool.not_not, decide_eq_true_eq, decide_eq_false_iff_not, beq_iff_eq, beq_eq_false_iff_ne, bne_iff_ne, bne_eq_false_iff_eq, Bool.and_eq_true, Bool.or_eq_true, Bool.and_eq_false_iff, Bool.or_eq_false_iff, inB] at g3'
        refine rl_skip (gw_not rfl rfl g3) rfl ?_
        refine rl_skip (gw_not rfl rfl g3) rfl ?_
        refine rl_skip (gw_not rfl rfl g3) rfl ?_
        refine rl_skip (gw_not rfl rfl g3) rfl ?_
        refine rl_skip (gw_not rfl rfl g3) rfl ?_
        refine rl_skip (gw_not rfl rfl g3) rfl ?_
        refine rl_val gw_none (ov_pick_t rfl g3 rfl) rfl ?_
        refine rl_nil ?_
        refine at_then ?_
        refine ct_true rfl rfl ?_
        refine ct_seq ?_
        refine ct_reg ?_
        refine rl_val gw_none (ov_build rfl (bu26_)) rfl ?_
        refine rl_store [] sz26 rfl rfl rfl rfl rfl (Nat.le_of_ble_eq_true rfl) ?_
        refine rl_val gw_none (ov_assign rfl) rfl ?_
        refine rl_nil ?_
        refine at_then ?_
        refine ct_ret ?_
        refine at_then_ret ?_
        refine at_ret2 Try.results49 (ro_cell 0 ag26 rfl rfl rfl) (ro_tmp rfl) (fun w1 hp => ?_)
        unfold frameForR
        first | (rw [okR_no (by first | (simp_all; done) | (simp_all [inB]; done) | (simp_all [inB]; omega))]; exact RetSl.nil hp.ext0) | (rw [okR_yes (by first | (simp_all; done) | (simp_all [inB]; done) | (simp_all [inB]; omega))]; simp only [Int.toNat_natCast] at *; exact RetSl.ownL 999 hp rfl no_proof (showL_len n R).symm)
      ·
        have g3b := g3
        simp only [Bool.not_eq_false', inB, Bool.and_eq_true, decide_eq_true_eq] at g3b
        obtain ⟨R, rfl⟩ : ∃ R : Nat, rods = R := ⟨rods.toNat, by omega⟩
        have hR : 1 ≤ R ∧ R ≤ 8 := by omega
        have hpb := p10_bd hR.2
        refine rl_val (gw_some rfl rfl g3) (ov_move rfl) rfl ?_
        refine rl_val (gw_some rfl rfl g3) (ov_move rfl) rfl ?_
        refine rl_callv (gw_some rfl rfl g3) goes107 rfl (fun w1 hp => l2Power_c _ R _ rfl (by omega)) rfl ?_
        refine rl_val (gw_some rfl rfl g3) (ov_sub rfl rfl (by omega)) rfl ?_
        refine rl_callv (gw_some rfl rfl g3) goes116 rfl (fun w1 hp => l1In_c _ _ _ _) rfl ?_
        refine rl_val (gw_some rfl rfl g3) (ov_not rfl) rfl ?_
        refine rl_val gw_none (ov_pick_f rfl g3 rfl) rfl ?_
        refine rl_nil ?_
        refine at_then ?_
        first | refine ct_dec rfl (fun h1 => ?_) (fun h1 => ?_) | refine ct_ndec rfl (fun h1 => ?_) (fun h1 => ?_) | refine ct_eq rfl (fun h1 => ?_) (fun h1 => ?_) | refine ct_ne rfl (fun h1 => ?_) (fun h1 => ?_) | refine ct_not rfl (fun h1 => ?_) (fun h1 => ?_) | refine ct_cond rfl (fun h1 => ?_) (fun h1 => ?_)
        ·
          refine ct_seq ?_
          refine ct_reg ?_
          refine rl_val gw_none (ov_build rfl (bu26_)) rfl ?_
          refine rl_store [] sz26 rfl rfl rfl rfl rfl (Nat.le_of_ble_eq_true rfl) ?_
          refine rl_val gw_none (ov_assign rfl) rfl ?_
          refine rl_nil ?_
          refine at_then ?_
          refine ct_ret ?_
          refine at_then_ret ?_
          refine at_ret2 Try.results49 (ro_cell 0 ag26 rfl rfl rfl) (ro_tmp rfl) (fun w1 hp => ?_)
          unfold frameForR
          first | (rw [okR_no (by first | (simp_all; done) | (simp_all [inB]; done) | (simp_all [inB]; omega))]; exact RetSl.nil hp.ext0) | (rw [okR_yes (by first | (simp_all; done) | (simp_all [inB]; done) | (simp_all [inB]; omega))]; simp only [Int.toNat_natCast] at *; exact RetSl.ownL 999 hp rfl no_proof (showL_len n R).symm)
        ·
          refine ct_skip ?_
          refine at_then ?_
          refine ct_seq ?_
          refine ct_reg ?_
          refine rl_val gw_none (ov_move rfl) rfl ?_
          refine rl_val gw_none (ov_move rfl) rfl ?_
          refine rl_val gw_none (ov_move rfl) rfl ?_
          refine rl_val gw_none (ov_move rfl) rfl ?_
          refine rl_callsl (ι := Nat × List Value) (fun i bo => .agg [.int .i64 u, .int .i64 l, sv bo (R) i.1].toArray) (fun i => flat encIntA2 (showL (n) (R)) ++ i.2) (fun i bo => Sl 2 bo (R) i.1 (flat encIntA2 (showL (n) (R))) i.2) goes106 rfl (fun w1 hp => l2For_c u l _ (n) (R) _ rfl hR (by simp_all [inB]; omega)) rfl (fun ish bosh hssh => ?_)
          refine rl_store [_] sz26 rfl rfl rfl rfl rfl (Nat.le_of_ble_eq_true rfl) ?_
          refine rl_val gw_none (ov_assign rfl) rfl ?_
          refine rl_nil ?_
          refine at_then ?_
          refine ct_ret ?_
          refine at_ret2 Try.results49 (ro_cell 1 ag26 rfl rfl rfl) (ro_tmp rfl) (fun w1 hp => ?_)
          unfold frameForR
          first | (rw [okR_no (by first | (simp_all; done) | (simp_all [inB]; done) | (simp_all [inB]; omega))]; exact RetSl.nil hp.ext0) | (rw [okR_yes (by first | (simp_all; done) | (simp_all [inB]; done) | (simp_all [inB]; omega))]; simp only [Int.toNat_natCast] at *; exact RetSl.ownL 0 hp rfl hssh (showL_len n R).symm)

theorem iFrameFor_c (u : Int) (l : Int) (rods : Int) (n : Int) (w : World) (zu : In64 u) (zl : In64 l) (zrods : In64 rods) (zn : In64 n) : Calls Try.prog 48 ([.int .i64 u, .int .i64 l, .int .i64 rods, .int .i64 n]).toArray w (fun e w' => RetSl 81 2 (flat encIntA2 (frameForR u l rods n).xs) (frameForR u l rods n).xs.length (fun s => .tuple #[.agg [.int .i64 (frameForR u l rods n).u, .int .i64 (frameForR u l rods n).l, s].toArray, .bool (frameForR u l rods n).ok]) w e w') := by
  refine calls_ct Try.func48 Try.ntmps48 rfl rfl ?_
  refine ct_seq ?_
  refine ct_reg ?_
  refine rl_alloc ze26 rfl (fun N1 => ?_)
  refine rl_val gw_none (ov_assign rfl) rfl ?_
  refine rl_nil ?_
  refine at_then ?_
  refine ct_seq ?_
  refine ct_seq ?_
  refine ct_reg ?_
  refine rl_val gw_none (ov_move rfl) rfl ?_
  refine rl_callv gw_none goes112 rfl (fun w1 hp => within_c _ _ _ _) rfl ?_
  refine rl_val gw_none (ov_not rfl) rfl ?_
  refine rl_nil ?_
  refine at_then ?_
  first | refine ct_dec rfl (fun h1 => ?_) (fun h1 => ?_) | refine ct_ndec rfl (fun h1 => ?_) (fun h1 => ?_) | refine ct_eq rfl (fun h1 => ?_) (fun h1 => ?_) | refine ct_ne rfl (fun h1 => ?_) (fun h1 => ?_) | refine ct_not rfl (fun h1 => ?_) (fun h1 => ?_) | refine ct_cond rfl (fun h1 => ?_) (fun h1 => ?_)
  ·
    refine ct_seq ?_
    refine ct_reg ?_
    refine rl_val gw_none (ov_build rfl (bu26_)) rfl ?_
    refine rl_store [] sz26 rfl rfl rfl rfl rfl (Nat.le_of_ble_eq_true rfl) ?_
    refine rl_val gw_none (ov_assign rfl) rfl ?_
    refine rl_nil ?_
    refine at_then ?_
    refine ct_ret ?_
    refine at_then_ret ?_
    refine at_ret2 Try.results48 (ro_cell 0 ag26 rfl rfl rfl) (ro_tmp rfl) (fun w1 hp => ?_)
    unfold frameForR
    first | (rw [okR_no (by first | (simp_all; done) | (simp_all [inB]; done) | (simp_all [inB]; omega))]; exact RetSl.nil hp.ext0) | (rw [okR_yes (by first | (simp_all; done) | (simp_all [inB]; done) | (simp_all [inB]; omega))]; simp only [List.length_replicate, Int.toNat_natCast] at *; exact RetSl.ownL 999 hp rfl no_proof (showL_len n R).symm)
  ·
    have h1b := h1
    simp only [Bool.not_eq_true', Bool.not_eq_false, Bool.not_eq_false', inB, Bool.and_eq_true, decide_eq_true_eq] at h1b
    obtain ⟨R, rfl⟩ : ∃ R : Nat, rods = R := ⟨rods.toNat, by omega⟩
    have hR : 1 ≤ R ∧ R ≤ 8 := by omega
    have hpb := p10_bd hR.2
    have hzf := frameB_zero (u := u) (l := l) hR
    refine ct_skip ?_
    refine at_then ?_
    refine ct_seq ?_
    refine ct_reg ?_
    refine rl_val gw_none (ov_move rfl) rfl ?_
    refine rl_val gw_none (ov_move rfl) rfl ?_
    refine rl_val gw_none (ov_move rfl) rfl ?_
    refine rl_make Try.underlying22 ze81 sz81 by81 rfl rfl (by omega) (by unfold maxLen; omega) rfl (fun N2 => ?_)
    refine rl_val gw_none (ov_build rfl (bu26_0_1_2 _ _ _ _ _)) rfl ?_
    refine rl_alloc ze26 rfl (fun N3 => ?_)
    refine rl_store [] sz26 rfl rfl rfl rfl rfl (Nat.le_of_ble_eq_true rfl) ?_
    refine rl_nil ?_
    refine at_then ?_
    refine ct_seq ?_
    refine ct_seq ?_
    refine ct_reg ?_
    first | refine rl_val gw_none (ov_loadall 0 ag26 rfl rfl rfl) rfl ?_ | refine rl_val gw_none (ov_loadp 0 ag26 rfl rfl (vs := [_, _, _]) rfl rfl) rfl ?_ | refine rl_val gw_none (ov_loada 0 ag26 rfl rfl rfl (by assumption)) rfl ?_
    refine rl_callv gw_none goes113 rfl (fun w1 hp => iIsFrame_c u l (List.replicate R (⟨0, 0⟩ : IntA2)) _ _ zu zl (rep_G R) (Hp.rods hp 1 rfl hR.2)) rfl ?_
    refine rl_val gw_none (ov_not rfl) rfl ?_
    refine rl_val gw_none (ov_move rfl) rfl ?_
    refine rl_split (t := 23) rfl (fun g1 => ?_) (fun g1 => ?_)
    ·
      have g1' := g1
      try simp only [Bool.not_eq_true', Bool.not_eq_false', Bool.not_not, decide_eq_true_eq, decide_eq_false_iff_not, beq_iff_eq, beq_eq_false_iff_ne, bne_iff_ne, bne_eq_false_iff_eq, Bool.and_eq_true, Bool.or_eq_true, Bool.and_eq_false_iff, Bool.or_eq_false_iff, inB] at g1'
      refine rl_skip (gw_not rfl rfl g1) rfl ?_
      refine rl_skip (gw_not rfl rfl g1) rfl ?_
      refine rl_skip (gw_not rfl rfl g1) rfl ?_
      refine rl_skip (gw_not rfl rfl g1) rfl ?_
      refine rl_val gw_none (ov_pick_t rfl g1 rfl) rfl ?_
      refine rl_nil ?_
      refine at_then ?_
      refine ct_true rfl rfl ?_
      refine ct_seq ?_
      refine ct_reg ?_
      refine rl_val gw_none (ov_build rfl (bu26_)) rfl ?_
      refine rl_store [_, _] sz26 rfl rfl rfl rfl rfl (Nat.le_of_ble_eq_true rfl) ?_
      refine rl_val gw_none (ov_assign rfl) rfl ?_
      refine rl_nil ?_
      refine at_then ?_
      refine ct_ret ?_
      refine at_then_ret ?_
      refine at_ret2 Try.results48 (ro_cell 2 ag26 rfl rfl rfl) (ro_tmp rfl) (fun w1 hp => ?_)
      unfold frameForR
      first | (rw [okR_no (by first | (simp_all; done) | (simp_all [inB]; done) | (simp_all [inB]; omega))]; exact RetSl.nil hp.ext0) | (rw [okR_yes (by first | (simp_all; done) | (simp_all [inB]; done) | (simp_all [inB]; omega))]; simp only [List.length_replicate, Int.toNat_natCast] at *; exact RetSl.ownL 999 hp rfl no_proof (showL_len n R).symm)
    ·
      have g1' := g1
      try simp only [Bool.not_eq_true', Bool.not_eq_false', Bool.not_not, decide_eq_true_eq, decide_eq_false_iff_not, beq_iff_eq, beq_eq_false_iff_ne, bne_iff_ne, bne_eq_false_iff_eq, Bool.and_eq_true, Bool.or_eq_true, Bool.and_eq_false_iff, Bool.or_eq_false_iff, inB] at g1'
      first | refine rl_val (gw_some rfl rfl g1) (ov_loadall 0 ag26 rfl rfl rfl) rfl ?_ | refine rl_val (gw_some rfl rfl g1) (ov_loadp 0 ag26 rfl rfl (vs := [_, _, _]) rfl rfl) rfl ?_ | refine rl_val (gw_some rfl rfl g1) (ov_loada 0 ag26 rfl rfl rfl (by assumption)) rfl ?_
      refine rl_val (gw_some rfl rfl g1) (ov_move rfl) rfl ?_
      refine rl_callv (gw_some rfl rfl g1) goes114 rfl (fun w1 hp => fitsOn_c u l (List.replicate R (⟨0, 0⟩ : IntA2)) _ n _ zu zl (rep_G R) (Hp.rods hp 1 rfl hR.2) (by simp; omega)) rfl ?_
      refine rl_val (gw_some rfl rfl g1) (ov_not rfl) rfl ?_
      refine rl_val gw_none (ov_pick_f rfl g1 rfl) rfl ?_
      refine rl_nil ?_
      refine at_then ?_
      first | refine ct_dec rfl (fun h2 => ?_) (fun h2 => ?_) | refine ct_ndec rfl (fun h2 => ?_) (fun h2 => ?_) | refine ct_eq rfl (fun h2 => ?_) (fun h2 => ?_) | refine ct_ne rfl (fun h2 => ?_) (fun h2 => ?_) | refine ct_not rfl (fun h2 => ?_) (fun h2 => ?_) | refine ct_cond rfl (fun h2 => ?_) (fun h2 => ?_)
      ·
        refine ct_seq ?_
        refine ct_reg ?_
        refine rl_val gw_none (ov_build rfl (bu26_)) rfl ?_
        refine rl_store [_, _] sz26 rfl rfl rfl rfl rfl (Nat.le_of_ble_eq_true rfl) ?_
        refine rl_val gw_none (ov_assign rfl) rfl ?_
        refine rl_nil ?_
        refine at_then ?_
        refine ct_ret ?_
        refine at_then_ret ?_
        refine at_ret2 Try.results48 (ro_cell 2 ag26 rfl rfl rfl) (ro_tmp rfl) (fun w1 hp => ?_)
        unfold frameForR
        first | (rw [okR_no (by first | (simp_all; done) | (simp_all [inB]; done) | (simp_all [inB]; omega))]; exact RetSl.nil hp.ext0) | (rw [okR_yes (by first | (simp_all; done) | (simp_all [inB]; done) | (simp_all [inB]; omega))]; simp only [List.length_replicate, Int.toNat_natCast] at *; exact RetSl.ownL 999 hp rfl no_proof (showL_len n R).symm)
      ·
        refine ct_skip ?_
        refine at_then ?_
        refine ct_seq ?_
        refine ct_reg ?_
        first | refine rl_val gw_none (ov_loadall 0 ag26 rfl rfl rfl) rfl ?_ | refine rl_val gw_none (ov_loadp 0 ag26 rfl rfl (vs := [_, _, _]) rfl rfl) rfl ?_ | refine rl_val gw_none (ov_loada 0 ag26 rfl rfl rfl (by assumption)) rfl ?_
        refine rl_val gw_none (ov_move rfl) rfl ?_
        refine rl_callsl (ι := Nat × List Value) (fun i bo => .agg [.int .i64 u, .int .i64 l, sv bo ((List.replicate R (⟨0, 0⟩ : IntA2))).length i.1].toArray) (fun i => flat encIntA2 (showL (n) ((List.replicate R (⟨0, 0⟩ : IntA2))).length) ++ i.2) (fun i bo => Sl 2 bo ((List.replicate R (⟨0, 0⟩ : IntA2))).length i.1 (flat encIntA2 (showL (n) ((List.replicate R (⟨0, 0⟩ : IntA2))).length)) i.2) goes115 rfl (fun w1 hp => showing_c u l (List.replicate R (⟨0, 0⟩ : IntA2)) n _ _ zu zl (rep_G R) (Hp.rods hp 1 rfl hR.2) (by simp; omega) (by simp; omega) (by simp_all [inB]; omega)) rfl (fun ish bosh hssh => ?_)
        refine rl_store [_, _, _] sz26 rfl rfl rfl rfl rfl (Nat.le_of_ble_eq_true rfl) ?_
        refine rl_val gw_none (ov_assign rfl) rfl ?_
        refine rl_nil ?_
        refine at_then ?_
        refine ct_ret ?_
        refine at_ret2 Try.results48 (ro_cell 3 ag26 rfl rfl rfl) (ro_tmp rfl) (fun w1 hp => ?_)
        unfold frameForR
        first | (rw [okR_no (by first | (simp_all; done) | (simp_all [inB]; done) | (simp_all [inB]; omega))]; exact RetSl.nil hp.ext0) | (rw [okR_yes (by first | (simp_all; done) | (simp_all [inB]; done) | (simp_all [inB]; omega))]; simp only [List.length_replicate, Int.toNat_natCast] at *; exact RetSl.ownL 0 hp rfl hssh (showL_len n R).symm)

theorem isFactor_c (n : Int) (w : World) : Calls Try.prog 143 ([.int .i64 n]).toArray w (fun e w' => e = .returned (.bool (inB n 0 9999)) ∧ Ext w w') := by
  refine calls_ct Try.func143 Try.ntmps143 rfl rfl ?_
  refine ct_seq ?_
  refine ct_reg ?_
  refine rl_val gw_none (ov_assign rfl) rfl ?_
  refine rl_nil ?_
  refine at_then ?_
  refine ct_seq ?_
  refine ct_reg ?_
  refine rl_val gw_none (ov_move rfl) rfl ?_
  refine rl_callv gw_none goes112 rfl (fun w1 hp => within_c _ _ _ _) rfl ?_
  refine rl_val gw_none (ov_assign rfl) rfl ?_
  refine rl_nil ?_
  refine at_then ?_
  refine ct_ret ?_
  refine at_ret1 Try.results143 (ro_tmp rfl) (fun w1 hp => ?_)
  exact ⟨rfl, hp.ext0⟩

theorem l9Factor_c (n : Int) (w : World) : Calls Try.prog 141 ([.int .i64 n]).toArray w (fun e w' => e = .returned (.bool (inB n 0 9999)) ∧ Ext w w') := by
  refine calls_ct Try.func141 Try.ntmps141 rfl rfl ?_
  refine ct_seq ?_
  refine ct_reg ?_
  refine rl_val gw_none (ov_assign rfl) rfl ?_
  refine rl_nil ?_
  refine at_then ?_
  refine ct_seq ?_
  refine ct_reg ?_
  refine rl_val gw_none (ov_move rfl) rfl ?_
  refine rl_callv gw_none goes116 rfl (fun w1 hp => l1In_c _ _ _ _) rfl ?_
  refine rl_val gw_none (ov_assign rfl) rfl ?_
  refine rl_nil ?_
  refine at_then ?_
  refine ct_ret ?_
  refine at_ret1 Try.results141 (ro_tmp rfl) (fun w1 hp => ?_)
  exact ⟨rfl, hp.ext0⟩

theorem areFactors_c (a b : Int) (w : World) : Calls Try.prog 108 ([.int .i64 a, .int .i64 b]).toArray w (fun e w' => e = .returned (.bool (timB a b)) ∧ Ext w w') := by
  refine calls_ct Try.func108 Try.ntmps108 rfl rfl ?_
  refine ct_seq ?_
  refine ct_reg ?_
  refine rl_val gw_none (ov_assign rfl) rfl ?_
  refine rl_nil ?_
  refine at_then ?_
  refine ct_seq ?_
  refine ct_reg ?_
  refine rl_val gw_none (ov_move rfl) rfl ?_
  refine rl_callv gw_none goes143 rfl (fun w1 hp => isFactor_c _ _) rfl ?_
  refine rl_val gw_none (ov_move rfl) rfl ?_
  refine rl_split (t := 7) rfl (fun g1 => ?_) (fun g1 => ?_)
  ·
    have g1' := g1
    try simp only [Bool.not_eq_true', Bool.not_eq_false', Bool.not_not, decide_eq_true_eq, decide_eq_false_iff_not, beq_iff_eq, beq_eq_false_iff_ne, bne_iff_ne, bne_eq_false_iff_eq, Bool.and_eq_true, Bool.or_eq_true, Bool.and_eq_false_iff, Bool.or_eq_false_iff, inB] at g1'
    refine rl_val (gw_some rfl rfl g1) (ov_move rfl) rfl ?_
    refine rl_callv (gw_some rfl rfl g1) goes143 rfl (fun w1 hp => isFactor_c _ _) rfl ?_
    refine rl_val gw_none (ov_pick_t rfl g1 rfl) rfl ?_
    refine rl_val gw_none (ov_assign rfl) rfl ?_
    refine rl_nil ?_
    refine at_then ?_
    refine ct_ret ?_
    refine at_ret1 Try.results108 (ro_tmp rfl) (fun w1 hp => ?_)
    refine ⟨?_, hp.ext0⟩
    unfold timB
    first | rfl | (rw [g1, Bool.true_and]; done) | (rw [g1, Bool.false_and]; done) | (simp_all; done)
  ·
    have g1' := g1
    try simp only [Bool.not_eq_true', Bool.not_eq_false', Bool.not_not, decide_eq_true_eq, decide_eq_false_iff_not, beq_iff_eq, beq_eq_false_iff_ne, bne_iff_ne, bne_eq_false_iff_eq, Bool.and_eq_true, Bool.or_eq_true, Bool.and_eq_false_iff, Bool.or_eq_false_iff, inB] at g1'
    refine rl_skip (gw_not rfl rfl g1) rfl ?_
    refine rl_skip (gw_not rfl rfl g1) rfl ?_
    refine rl_val gw_none (ov_pick_f rfl g1 rfl) rfl ?_
    refine rl_val gw_none (ov_assign rfl) rfl ?_
    refine rl_nil ?_
    refine at_then ?_
    refine ct_ret ?_
    refine at_ret1 Try.results108 (ro_tmp rfl) (fun w1 hp => ?_)
    refine ⟨?_, hp.ext0⟩
    unfold timB
    first | rfl | (rw [g1, Bool.true_and]; done) | (rw [g1, Bool.false_and]; done) | (simp_all; done)

theorem l9Both_c (a b : Int) (w : World) : Calls Try.prog 104 ([.int .i64 a, .int .i64 b]).toArray w (fun e w' => e = .returned (.bool (timB a b)) ∧ Ext w w') := by
  refine calls_ct Try.func104 Try.ntmps104 rfl rfl ?_
  refine ct_seq ?_
  refine ct_reg ?_
  refine rl_val gw_none (ov_assign rfl) rfl ?_
  refine rl_nil ?_
  refine at_then ?_
  refine ct_seq ?_
  refine ct_reg ?_
  refine rl_val gw_none (ov_move rfl) rfl ?_
  refine rl_callv gw_none goes141 rfl (fun w1 hp => l9Factor_c _ _) rfl ?_
  refine rl_val gw_none (ov_move rfl) rfl ?_
  refine rl_split (t := 7) rfl (fun g1 => ?_) (fun g1 => ?_)
  ·
    have g1' := g1
    try simp only [Bool.not_eq_true', Bool.not_eq_false', Bool.not_not, decide_eq_true_eq, decide_eq_false_iff_not, beq_iff_eq, beq_eq_false_iff_ne, bne_iff_ne, bne_eq_false_iff_eq, Bool.and_eq_true, Bool.or_eq_true, Bool.and_eq_false_iff, Bool.or_eq_false_iff, inB] at g1'
    refine rl_val (gw_some rfl rfl g1) (ov_move rfl) rfl ?_
    refine rl_callv (gw_some rfl rfl g1) goes141 rfl (fun w1 hp => l9Factor_c _ _) rfl ?_
    refine rl_val gw_none (ov_pick_t rfl g1 rfl) rfl ?_
    refine rl_val gw_none (ov_assign rfl) rfl ?_
    refine rl_nil ?_
    refine at_then ?_
    refine ct_ret ?_
    refine at_ret1 Try.results104 (ro_tmp rfl) (fun w1 hp => ?_)
    refine ⟨?_, hp.ext0⟩
    unfold timB
    first | rfl | (rw [g1, Bool.true_and]; done) | (rw [g1, Bool.false_and]; done) | (simp_all; done)
  ·
    have g1' := g1
    try simp only [Bool.not_eq_true', Bool.not_eq_false', Bool.not_not, decide_eq_true_eq, decide_eq_false_iff_not, beq_iff_eq, beq_eq_false_iff_ne, bne_iff_ne, bne_eq_false_iff_eq, Bool.and_eq_true, Bool.or_eq_true, Bool.and_eq_false_iff, Bool.or_eq_false_iff, inB] at g1'
    refine rl_skip (gw_not rfl rfl g1) rfl ?_
    refine rl_skip (gw_not rfl rfl g1) rfl ?_
    refine rl_val gw_none (ov_pick_f rfl g1 rfl) rfl ?_
    refine rl_val gw_none (ov_assign rfl) rfl ?_
    refine rl_nil ?_
    refine at_then ?_
    refine ct_ret ?_
    refine at_ret1 Try.results104 (ro_tmp rfl) (fun w1 hp => ?_)
    refine ⟨?_, hp.ext0⟩
    unfold timB
    first | rfl | (rw [g1, Bool.true_and]; done) | (rw [g1, Bool.false_and]; done) | (simp_all; done)

theorem digitsOf_c (n : Int) (w : World) (hn : 0 ≤ n ∧ n ≤ 9999) : Calls Try.prog 144 ([.int .i64 n]).toArray w (fun e w' => RetSl 3 1 (ints (dgs 4 n)) (dgs 4 n).length (fun s => s) w e w') := by
  refine calls_ct Try.func144 Try.ntmps144 rfl rfl ?_
  refine ct_seq ?_
  refine ct_reg ?_
  refine rl_val gw_none (ov_assign rfl) rfl ?_
  refine rl_nil ?_
  refine at_then ?_
  refine ct_seq ?_
  refine ct_reg ?_
  refine rl_val gw_none (ov_assign rfl) rfl ?_
  refine rl_nil ?_
  refine at_then ?_
  refine ct_seq ?_
  refine ct_block ?_
  refine ct_loopR (ι := Nat × Int × Option Nat × Nat × List Value × List Int) (fun p0 => [(0, .int .i64 p0.2.1), (3, sv p0.2.2.1 p0.2.2.2.2.2.length p0.2.2.2.1)]) [(2, _)] (fun p0 => [(p0.2.2.1, 3, ints p0.2.2.2.2.2 ++ p0.2.2.2.2.1)]) (fun p0 => dgs 4 n = dgs p0.1 p0.2.1 ++ p0.2.2.2.2.2 ∧ (0 ≤ p0.2.1 ∧ p0.2.1 < p10 p0.1 ∧ p0.2.1 ≤ 9999) ∧ p0.2.2.2.2.2.length + p0.1 ≤ 4 ∧ Sl 1 p0.2.2.1 p0.2.2.2.2.2.length p0.2.2.2.1 (ints p0.2.2.2.2.2) p0.2.2.2.2.1) (fun p0 => p0.1) ((4, n, none, 0, [], [])) (Sub.cons rfl Sub.nil) (fun _ hq => hq.nil 3) (by (repeat' (first | exact Sub.nil | refine Sub.cons ?_ ?_)); all_goals (first | rfl | exact lkInt rfl (by omega))) ⟨(List.append_nil _).symm, ⟨hn.1, by show n < p10 4; rw [show p10 4 = 10000 from rfl]; omega, hn.2⟩, by simp, Sl.nil0 _⟩ (fun p0 hp0 => ?_)
  obtain ⟨f, n2, bo, cap, pad, acc⟩ := p0
  obtain ⟨hd, hn2, hal, hsl⟩ := hp0
  dsimp only at hd hn2 hal hsl ⊢
  refine ct_seq ?_
  refine ct_seq ?_
  refine ct_reg ?_
  refine rl_val gw_none (ov_move rfl) rfl ?_
  refine rl_val gw_none (ov_gtr rfl rfl) rfl ?_
  refine rl_nil ?_
  refine at_then ?_
  first | refine ct_dec rfl (fun h1 => ?_) (fun h1 => ?_) | refine ct_ndec rfl (fun h1 => ?_) (fun h1 => ?_) | refine ct_eq rfl (fun h1 => ?_) (fun h1 => ?_) | refine ct_ne rfl (fun h1 => ?_) (fun h1 => ?_) | refine ct_not rfl (fun h1 => ?_) (fun h1 => ?_) | refine ct_cond rfl (fun h1 => ?_) (fun h1 => ?_)
  ·
    have hpos : 0 < n2 := by omega
    obtain ⟨f, rfl⟩ : ∃ f2, f = f2 + 1 := ⟨f - 1, by rcases Nat.eq_zero_or_pos f with rfl | hf; (have : n2 < 1 := hn2.2.1); omega; omega⟩
    refine ct_skip ?_
    refine at_then ?_
    refine ct_seq ?_
    refine ct_block ?_
    refine ct_reg ?_
    refine rl_val gw_none (ov_move rfl) rfl ?_
    refine rl_val gw_none (ov_rem rfl rfl (by omega) (by omega)) rfl ?_
    refine rl_bslice Try.underlying27 ze3 sz3 rfl rfl rfl rfl rfl rfl (fun N1 => ?_)
    refine rl_val gw_none (ov_move rfl) rfl ?_
    refine rl_appT (ints) (ints_append) [] (bo := some N1) (acc := [n2 % 10]) Try.underlying27 ze3 sz3 rfl rfl by3 rfl rfl rfl (Sl.lit rfl (by first | decide | (unfold maxLen; simp; done) | (unfold maxLen; simp; omega))) (acc) rfl (fun w1 hp => hp.slsr 1 rfl hsl) (ints_one _) (by unfold maxLen; simp; omega) (by simp; omega) rfl (fun boq1 capq1 padq1 hsq1 => ?_)
    refine rl_val gw_none (ov_assign rfl) rfl ?_
    refine rl_nil ?_
    refine at_block ?_
    refine at_then ?_
    refine ct_reg ?_
    refine rl_val gw_none (ov_move rfl) rfl ?_
    refine rl_val gw_none (ov_quo rfl rfl (by omega) (by omega) (by omega)) rfl ?_
    refine rl_val gw_none (ov_assign rfl) rfl ?_
    refine rl_nil ?_
    exact at_backR (f, n2 / 10, boq1, capq1, padq1, [n2 % 10] ++ acc) ⟨by dsimp only; rw [hd, dgs_yes hpos, List.append_assoc], ⟨by dsimp only; omega, by dsimp only; rw [p10_succ] at hn2; omega, by dsimp only; omega⟩, by simp; omega, hsq1⟩ (by dsimp only; omega) (by (repeat' (first | exact Sub.nil | refine Sub.cons ?_ ?_)); all_goals (first | rfl | exact lkInt rfl (by omega))) (Sub.cons rfl Sub.nil) (fun _ hp => (Hp.sub (Hp.pull hp 0 rfl) (List.sublist_append_left [_] _)))
  ·
    have hd2 : dgs 4 n = acc := by rw [hd, dgs_no _ (by omega)]; rfl
    refine ct_exit ?_
    refine at_then_exit ?_
    refine at_then_exit ?_
    refine at_block_hit ?_
    refine at_then ?_
    refine ct_seq ?_
    refine ct_reg ?_
    refine rl_val gw_none (ov_move rfl) rfl ?_
    refine rl_val gw_none (ov_assign rfl) rfl ?_
    refine rl_nil ?_
    refine at_then ?_
    refine ct_ret ?_
    refine at_ret1 Try.results144 (ro_tmp rfl) (fun w1 hp => ?_)
    rw [hd2]
    exact RetSl.own 0 hp rfl hsl

theorem l9Digits_c (n : Int) (w : World) (hn : 0 ≤ n ∧ n ≤ 9999) : Calls Try.prog 142 ([.int .i64 n]).toArray w (fun e w' => RetSl 3 1 (ints (dgs 4 n)) (dgs 4 n).length (fun s => s) w e w') := by
  refine calls_ct Try.func142 Try.ntmps142 rfl rfl ?_
  refine ct_seq ?_
  refine ct_reg ?_
  refine rl_val gw_none (ov_assign rfl) rfl ?_
  refine rl_nil ?_
  refine at_then ?_
  refine ct_seq ?_
  refine ct_reg ?_
  refine rl_bslice Try.underlying27 ze3 sz3 rfl rfl rfl rfl rfl rfl (fun N1 => ?_)
  refine rl_val gw_none (ov_assign rfl) rfl ?_
  refine rl_nil ?_
  refine at_then ?_
  refine ct_seq ?_
  refine ct_block ?_
  refine ct_loopR (ι := Nat × Int × Option Nat × Nat × List Value × List Int) (fun p0 => [(0, .int .i64 p0.2.1), (3, sv p0.2.2.1 p0.2.2.2.2.2.length p0.2.2.2.1)]) [(2, _)] (fun p0 => [(p0.2.2.1, 3, ints p0.2.2.2.2.2 ++ p0.2.2.2.2.1)]) (fun p0 => dgs 4 n = dgs p0.1 p0.2.1 ++ p0.2.2.2.2.2 ∧ (0 ≤ p0.2.1 ∧ p0.2.1 < p10 p0.1 ∧ p0.2.1 ≤ 9999) ∧ p0.2.2.2.2.2.length + p0.1 ≤ 4 ∧ Sl 1 p0.2.2.1 p0.2.2.2.2.2.length p0.2.2.2.1 (ints p0.2.2.2.2.2) p0.2.2.2.2.1) (fun p0 => p0.1) ((4, n, some N1, 0, [], [])) (Sub.cons rfl Sub.nil) (fun _ hq => hq) (by (repeat' (first | exact Sub.nil | refine Sub.cons ?_ ?_)); all_goals (first | rfl | exact lkInt rfl (by omega))) ⟨(List.append_nil _).symm, ⟨hn.1, by show n < p10 4; rw [show p10 4 = 10000 from rfl]; omega, hn.2⟩, by simp, Sl.lit rfl (Nat.zero_le _)⟩ (fun p0 hp0 => ?_)
  obtain ⟨f, n2, bo, cap, pad, acc⟩ := p0
  obtain ⟨hd, hn2, hal, hsl⟩ := hp0
  dsimp only at hd hn2 hal hsl ⊢
  refine ct_seq ?_
  refine ct_seq ?_
  refine ct_reg ?_
  refine rl_val gw_none (ov_move rfl) rfl ?_
  refine rl_val gw_none (ov_gtr rfl rfl) rfl ?_
  refine rl_nil ?_
  refine at_then ?_
  first | refine ct_dec rfl (fun h1 => ?_) (fun h1 => ?_) | refine ct_ndec rfl (fun h1 => ?_) (fun h1 => ?_) | refine ct_eq rfl (fun h1 => ?_) (fun h1 => ?_) | refine ct_ne rfl (fun h1 => ?_) (fun h1 => ?_) | refine ct_not rfl (fun h1 => ?_) (fun h1 => ?_) | refine ct_cond rfl (fun h1 => ?_) (fun h1 => ?_)
  ·
    have hpos : 0 < n2 := by omega
    obtain ⟨f, rfl⟩ : ∃ f2, f = f2 + 1 := ⟨f - 1, by rcases Nat.eq_zero_or_pos f with rfl | hf; (have : n2 < 1 := hn2.2.1); omega; omega⟩
    refine ct_skip ?_
    refine at_then ?_
    refine ct_block ?_
    refine ct_seq ?_
    refine ct_reg ?_
    refine rl_val gw_none (ov_move rfl) rfl ?_
    refine rl_val gw_none (ov_rem rfl rfl (by omega) (by omega)) rfl ?_
    refine rl_bslice Try.underlying27 ze3 sz3 rfl rfl rfl rfl rfl rfl (fun N2 => ?_)
    refine rl_val gw_none (ov_move rfl) rfl ?_
    refine rl_appT (ints) (ints_append) [] (bo := some N2) (acc := [n2 % 10]) Try.underlying27 ze3 sz3 rfl rfl by3 rfl rfl rfl (Sl.lit rfl (by first | decide | (unfold maxLen; simp; done) | (unfold maxLen; simp; omega))) (acc) rfl (fun w1 hp => hp.slsr 1 rfl hsl) (ints_one _) (by unfold maxLen; simp; omega) (by simp; omega) rfl (fun boq1 capq1 padq1 hsq1 => ?_)
    refine rl_val gw_none (ov_assign rfl) rfl ?_
    refine rl_nil ?_
    refine at_then ?_
    refine ct_reg ?_
    refine rl_val gw_none (ov_move rfl) rfl ?_
    refine rl_val gw_none (ov_quo rfl rfl (by omega) (by omega) (by omega)) rfl ?_
    refine rl_val gw_none (ov_assign rfl) rfl ?_
    refine rl_nil ?_
    refine at_block ?_
    exact at_backR (f, n2 / 10, boq1, capq1, padq1, [n2 % 10] ++ acc) ⟨by dsimp only; rw [hd, dgs_yes hpos, List.append_assoc], ⟨by dsimp only; omega, by dsimp only; rw [p10_succ] at hn2; omega, by dsimp only; omega⟩, by simp; omega, hsq1⟩ (by dsimp only; omega) (by (repeat' (first | exact Sub.nil | refine Sub.cons ?_ ?_)); all_goals (first | rfl | exact lkInt rfl (by omega))) (Sub.cons rfl Sub.nil) (fun _ hp => (Hp.sub (Hp.pull hp 0 rfl) (List.sublist_append_left [_] _)))
  ·
    have hd2 : dgs 4 n = acc := by rw [hd, dgs_no _ (by omega)]; rfl
    refine ct_exit ?_
    refine at_then_exit ?_
    refine at_then_exit ?_
    refine at_block_hit ?_
    refine at_then ?_
    refine ct_seq ?_
    refine ct_reg ?_
    refine rl_val gw_none (ov_move rfl) rfl ?_
    refine rl_val gw_none (ov_assign rfl) rfl ?_
    refine rl_nil ?_
    refine at_then ?_
    refine ct_ret ?_
    refine at_ret1 Try.results142 (ro_tmp rfl) (fun w1 hp => ?_)
    rw [hd2]
    exact RetSl.own 0 hp rfl hsl
end Go.Proofs.Ytnnhkpecgchgiaa
