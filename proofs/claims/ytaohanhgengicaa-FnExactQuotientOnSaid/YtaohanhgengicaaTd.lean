import Derived.Test.YtaohanhgengicaaTc
import Derived.KernelRfl
set_option linter.unusedVariables false
set_option linter.unusedSimpArgs false
namespace Go.Proofs.Ytaohanhgengicaa
open Go Go.RowKit K
theorem begin_x (u : Int) (l : Int) (xs : List IntA2) (vxs : Value) (w : World) (zu : In64 u) (zl : In64 l) (hGxs : ∀ y ∈ xs, GIntA2 y) (hsxs : SR w 2 vxs xs.length (flat encIntA2 xs)) : Calls Try.prog 82 ([.agg (List.toArray (α := Value) [.int .i64 u, .int .i64 l, vxs])]).toArray w (fun e w' => ∃ p : Value, True ∧ e = .returned (.tuple #[p, .bool (goodB u l xs)]) ∧ Ext w w') := by
  obtain ⟨axs, capxs, rfl, hcapxs, hmaxxs⟩ := hsxs.slice
  have hlenxs := hsxs.len_le
  refine calls_ct Try.func82 Try.ntmps82 rfl rfl ?_
  refine ct_seq ?_
  refine ct_reg ?_
  refine rl_box rfl rfl (fun N1 => ?_)
  refine rl_val gw_none (ov_assign rfl) rfl ?_
  refine rl_val gw_none (ov_assign rfl) rfl ?_
  refine rl_nil ?_
  refine at_then ?_
  refine ct_seq ?_
  refine ct_seq ?_
  refine ct_reg ?_
  first | refine rl_val gw_none (ov_loadall 0 ag24 rfl rfl rfl) rfl ?_ | refine rl_val gw_none (ov_loada 0 ag24 rfl rfl rfl (by assumption)) rfl ?_
  refine rl_callv gw_none goes56 rfl (fun w1 hp => iIsFrame_c u l xs _ _ zu zl hGxs (hsxs.ext hp.ext0)) rfl ?_
  refine rl_val gw_none (ov_not rfl) rfl ?_
  refine rl_val gw_none (ov_move rfl) rfl ?_
  refine rl_split (t := 7) rfl (fun g1 => ?_) (fun g1 => ?_)
  ·
    have g1' := g1
    try simp only [Bool.not_eq_true', Bool.not_eq_false', Bool.not_not, decide_eq_true_eq, decide_eq_false_iff_not, beq_iff_eq, beq_eq_false_iff_ne, bne_iff_ne, bne_eq_false_iff_eq, Bool.and_eq_true, Bool.or_eq_true, Bool.and_eq_false_iff, Bool.or_eq_false_iff, inB] at g1'
    refine rl_skip (gw_not rfl rfl g1) rfl ?_
    refine rl_skip (gw_not rfl rfl g1) rfl ?_
    refine rl_skip (gw_not rfl rfl g1) rfl ?_
    refine rl_val gw_none (ov_pick_t rfl g1 rfl) rfl ?_
    refine rl_nil ?_
    refine at_then ?_
    refine ct_true rfl rfl ?_
    refine ct_seq ?_
    refine ct_reg ?_
    refine rl_val gw_none (ov_assign rfl) rfl ?_
    refine rl_val gw_none (ov_assign rfl) rfl ?_
    refine rl_nil ?_
    refine at_then ?_
    refine ct_ret ?_
    refine at_then_ret ?_
    refine at_ret2 Try.results82 (ro_tmp rfl) (ro_tmp rfl) (fun w1 hp => ?_)
    first | (rw [show goodB u l xs = false from by unfold goodB; simp_all]; exact ⟨_, trivial, rfl, hp.ext0⟩) | (rw [show goodB u l xs = true from by unfold goodB; simp_all]; exact ⟨_, trivial, rfl, hp.ext0⟩)
  ·
    have g1' := g1
    try simp only [Bool.not_eq_true', Bool.not_eq_false', Bool.not_not, decide_eq_true_eq, decide_eq_false_iff_not, beq_iff_eq, beq_eq_false_iff_ne, bne_iff_ne, bne_eq_false_iff_eq, Bool.and_eq_true, Bool.or_eq_true, Bool.and_eq_false_iff, Bool.or_eq_false_iff, inB] at g1'
    first | refine rl_val (gw_some rfl rfl g1) (ov_loadall 0 ag24 rfl rfl rfl) rfl ?_ | refine rl_val (gw_some rfl rfl g1) (ov_loada 0 ag24 rfl rfl rfl (by assumption)) rfl ?_
    refine rl_callv (gw_some rfl rfl g1) goes94 rfl (fun w1 hp => standard_c u l xs _ _ zu zl hGxs (hsxs.ext hp.ext0)) rfl ?_
    refine rl_val (gw_some rfl rfl g1) (ov_not rfl) rfl ?_
    refine rl_val gw_none (ov_pick_f rfl g1 rfl) rfl ?_
    refine rl_nil ?_
    refine at_then ?_
    first | refine ct_dec rfl (fun h1 => ?_) (fun h1 => ?_) | refine ct_ndec rfl (fun h1 => ?_) (fun h1 => ?_) | refine ct_eq rfl (fun h1 => ?_) (fun h1 => ?_) | refine ct_ne rfl (fun h1 => ?_) (fun h1 => ?_) | refine ct_not rfl (fun h1 => ?_) (fun h1 => ?_) | refine ct_cond rfl (fun h1 => ?_) (fun h1 => ?_)
    ·
      refine ct_seq ?_
      refine ct_reg ?_
      refine rl_val gw_none (ov_assign rfl) rfl ?_
      refine rl_val gw_none (ov_assign rfl) rfl ?_
      refine rl_nil ?_
      refine at_then ?_
      refine ct_ret ?_
      refine at_then_ret ?_
      refine at_ret2 Try.results82 (ro_tmp rfl) (ro_tmp rfl) (fun w1 hp => ?_)
      first | (rw [show goodB u l xs = false from by unfold goodB; simp_all]; exact ⟨_, trivial, rfl, hp.ext0⟩) | (rw [show goodB u l xs = true from by unfold goodB; simp_all]; exact ⟨_, trivial, rfl, hp.ext0⟩)
    ·
      have hf : frameB u l xs = true := by simpa using g1
      have h8 := (frameB_ul hf).2.2.2
      have hl1 := (frameB_ul hf).2.2.1
      have hnb := numF_all hf
      refine ct_skip ?_
      refine at_then ?_
      refine ct_seq ?_
      refine ct_reg ?_
      first | refine rl_val gw_none (ov_loadall 0 ag24 rfl rfl rfl) rfl ?_ | refine rl_val gw_none (ov_loada 0 ag24 rfl rfl rfl (by assumption)) rfl ?_
      refine rl_callsl (ι := Nat × List Value) (fun i bo => .agg [.int .i64 u, .int .i64 l, sv bo (xs).length i.1].toArray) (fun i => flat encIntA2 (xs) ++ i.2) (fun i bo => Sl 2 bo (xs).length i.1 (flat encIntA2 (xs)) i.2) goes68 rfl (fun w1 hp => own_c u l xs _ _ zu zl hGxs (hsxs.ext hp.ext0) h8) rfl (fun iow boow hsow => ?_)
      refine rl_val gw_none (ov_build rfl (bu94_0 _ _ _ _ _)) rfl ?_
      refine rl_box rfl rfl (fun N2 => ?_)
      refine rl_val gw_none (ov_assign rfl) rfl ?_
      refine rl_val gw_none (ov_assign rfl) rfl ?_
      refine rl_nil ?_
      refine at_then ?_
      refine ct_ret ?_
      refine at_ret2 Try.results82 (ro_tmp rfl) (ro_tmp rfl) (fun w1 hp => ?_)
      first | (rw [show goodB u l xs = false from by unfold goodB; simp_all]; exact ⟨_, trivial, rfl, hp.ext0⟩) | (rw [show goodB u l xs = true from by unfold goodB; simp_all]; exact ⟨_, trivial, rfl, hp.ext0⟩)

theorem sFrameFor_c (u : Int) (l : Int) (rods : Int) (n : Int) (w : World) (zu : In64 u) (zl : In64 l) (zrods : In64 rods) (zn : In64 n) : Calls Try.prog 15 ([.int .i64 u, .int .i64 l, .int .i64 rods, .int .i64 n]).toArray w (fun e w' => RetSl 75 2 (flat encIntA2 (frameForR u l rods n).xs) (frameForR u l rods n).xs.length (fun s => .tuple #[.agg [.int .i64 (frameForR u l rods n).u, .int .i64 (frameForR u l rods n).l, s].toArray, .bool (frameForR u l rods n).ok]) w e w') := by
  refine calls_ct Try.func15 Try.ntmps15 rfl rfl ?_
  refine ct_seq ?_
  refine ct_reg ?_
  refine rl_alloc ze24 rfl (fun N1 => ?_)
  refine rl_val gw_none (ov_assign rfl) rfl ?_
  refine rl_nil ?_
  refine at_then ?_
  refine ct_seq ?_
  refine ct_seq ?_
  refine ct_reg ?_
  refine rl_val gw_none (ov_move rfl) rfl ?_
  refine rl_callv gw_none goes52 rfl (fun w1 hp => l1In_c _ _ _ _) rfl ?_
  refine rl_val gw_none (ov_not rfl) rfl ?_
  refine rl_val gw_none (ov_move rfl) rfl ?_
  refine rl_split (t := 13) rfl (fun g1 => ?_) (fun g1 => ?_)
  ·
    have g1' := g1
    try simp only [Bool.not_eq_true', Bool.not_eq_false', Bool.not_not, decide_eq_true_eq, decide_eq_false_iff_not, beq_iff_eq, beq_eq_false_iff_ne, bne_iff_ne, bne_eq_false_iff_eq, Bool.and_eq_true, Bool.or_eq_true, Bool.and_eq_false_iff, Bool.or_eq_false_iff, inB] at g1'
    refine rl_skip (gw_not rfl rfl g1) rfl ?_
    refine rl_skip (gw_not rfl rfl g1) rfl ?_
    refine rl_skip (gw_not rfl rfl g1) rfl ?_
    refine rl_val gw_none (ov_pick_t rfl g1 rfl) rfl ?_
    refine rl_val gw_none (ov_move rfl) rfl ?_
    refine rl_skip (gw_not rfl rfl rfl) rfl ?_
    refine rl_skip (gw_not rfl rfl rfl) rfl ?_
    refine rl_skip (gw_not rfl rfl rfl) rfl ?_
    refine rl_val gw_none (ov_pick_t rfl rfl rfl) rfl ?_
    refine rl_val gw_none (ov_move rfl) rfl ?_
    refine rl_skip (gw_not rfl rfl rfl) rfl ?_
    refine rl_skip (gw_not rfl rfl rfl) rfl ?_
    refine rl_skip (gw_not rfl rfl rfl) rfl ?_
    refine rl_skip (gw_not rfl rfl rfl) rfl ?_
    refine rl_skip (gw_not rfl rfl rfl) rfl ?_
    refine rl_skip (gw_not rfl rfl rfl) rfl ?_
    refine rl_val gw_none (ov_pick_t rfl rfl rfl) rfl ?_
    refine rl_nil ?_
    refine at_then ?_
    refine ct_true rfl rfl ?_
    refine ct_seq ?_
    refine ct_reg ?_
    refine rl_val gw_none (ov_build rfl (bu24_)) rfl ?_
    refine rl_store [] sz24 rfl rfl rfl rfl rfl (Nat.le_of_ble_eq_true rfl) ?_
    refine rl_val gw_none (ov_assign rfl) rfl ?_
    refine rl_nil ?_
    refine at_then ?_
    refine ct_ret ?_
    refine at_then_ret ?_
    refine at_ret2 Try.results15 (ro_cell 0 ag24 rfl rfl rfl) (ro_tmp rfl) (fun w1 hp => ?_)
    unfold frameForR
    first | (rw [okR_no (by first | (simp_all; done) | (simp_all [inB]; done) | (simp_all [inB]; omega))]; exact RetSl.nil hp.ext0) | (rw [okR_yes (by first | (simp_all; done) | (simp_all [inB]; done) | (simp_all [inB]; omega))]; simp only [Int.toNat_natCast] at *; exact RetSl.ownL 999 hp rfl no_proof (showL_len n R).symm)
  ·
    have g1' := g1
    try simp only [Bool.not_eq_true', Bool.not_eq_false', Bool.not_not, decide_eq_true_eq, decide_eq_false_iff_not, beq_iff_eq, beq_eq_false_iff_ne, bne_iff_ne, bne_eq_false_iff_eq, Bool.and_eq_true, Bool.or_eq_true, Bool.and_eq_false_iff, Bool.or_eq_false_iff, inB] at g1'
    refine rl_val (gw_some rfl rfl g1) (ov_move rfl) rfl ?_
    refine rl_callv (gw_some rfl rfl g1) goes52 rfl (fun w1 hp => l1In_c _ _ _ _) rfl ?_
    refine rl_val (gw_some rfl rfl g1) (ov_not rfl) rfl ?_
    refine rl_val gw_none (ov_pick_f rfl g1 rfl) rfl ?_
    refine rl_val gw_none (ov_move rfl) rfl ?_
    refine rl_split (t := 18) rfl (fun g2 => ?_) (fun g2 => ?_)
    ·
      have g2' := g2
      try simp only [Bool.not_eq_true', Bool.not_eq_false', Bool.not_not, decide_eq_true_eq, decide_eq_false_iff_not, beq_iff_eq, beq_eq_false_iff_ne, bne_iff_ne, bne_eq_false_iff_eq, Bool.and_eq_true, Bool.or_eq_true, Bool.and_eq_false_iff, Bool.or_eq_false_iff, inB] at g2'
      refine rl_skip (gw_not rfl rfl g2) rfl ?_
      refine rl_skip (gw_not rfl rfl g2) rfl ?_
      refine rl_skip (gw_not rfl rfl g2) rfl ?_
      refine rl_val gw_none (ov_pick_t rfl g2 rfl) rfl ?_
      refine rl_val gw_none (ov_move rfl) rfl ?_
      refine rl_skip (gw_not rfl rfl rfl) rfl ?_
      refine rl_skip (gw_not rfl rfl rfl) rfl ?_
      refine rl_skip (gw_not rfl rfl rfl) rfl ?_
      refine rl_skip (gw_not rfl rfl rfl) rfl ?_
      refine rl_skip (gw_not rfl rfl rfl) rfl ?_
      refine rl_skip (gw_not rfl rfl rfl) rfl ?_
      refine rl_val gw_none (ov_pick_t rfl rfl rfl) rfl ?_
      refine rl_nil ?_
      refine at_then ?_
      refine ct_true rfl rfl ?_
      refine ct_seq ?_
      refine ct_reg ?_
      refine rl_val gw_none (ov_build rfl (bu24_)) rfl ?_
      refine rl_store [] sz24 rfl rfl rfl rfl rfl (Nat.le_of_ble_eq_true rfl) ?_
      refine rl_val gw_none (ov_assign rfl) rfl ?_
      refine rl_nil ?_
      refine at_then ?_
      refine ct_ret ?_
      refine at_then_ret ?_
      refine at_ret2 Try.results15 (ro_cell 0 ag24 rfl rfl rfl) (ro_tmp rfl) (fun w1 hp => ?_)
      unfold frameForR
      first | (rw [okR_no (by first | (simp_all; done) | (simp_all [inB]; done) | (simp_all [inB]; omega))]; exact RetSl.nil hp.ext0) | (rw [okR_yes (by first | (simp_all; done) | (simp_all [inB]; done) | (simp_all [inB]; omega))]; simp only [Int.toNat_natCast] at *; exact RetSl.ownL 999 hp rfl no_proof (showL_len n R).symm)
    ·
      have g2' := g2
      try simp only [Bool.not_eq_true', Bool.not_eq_false', Bool.not_not, decide_eq_true_eq, decide_eq_false_iff_not, beq_iff_eq, beq_eq_false_iff_ne, bne_iff_ne, bne_eq_false_iff_eq, Bool.and_eq_true, Bool.or_eq_true, Bool.and_eq_false_iff, Bool.or_eq_false_iff, inB] at g2'
      refine rl_val (gw_some rfl rfl g2) (ov_move rfl) rfl ?_
      refine rl_callv (gw_some rfl rfl g2) goes52 rfl (fun w1 hp => l1In_c _ _ _ _) rfl ?_
      refine rl_val (gw_some rfl rfl g2) (ov_not rfl) rfl ?_
      refine rl_val gw_none (ov_pick_f rfl g2 rfl) rfl ?_
      refine rl_val gw_none (ov_move rfl) rfl ?_
      refine rl_split (t := 23) rfl (fun g3 => ?_) (fun g3 => ?_)
      ·
        have g3' := g3
        try simp only [Bool.not_eq_true', Bool.not_eq_false', Bool.not_not, decide_eq_true_eq, decide_eq_false_iff_not, beq_iff_eq, beq_eq_false_iff_ne, bne_iff_ne, bne_eq_false_iff_eq, Bool.and_eq_true, Bool.or_eq_true, Bool.and_eq_false_iff, Bool.or_eq_false_iff, inB] at g3'
        refine rl_skip (gw_not rfl rfl g3) rfl ?_
        refine rl_skip (gw_not rfl rfl g3) rfl ?_
        refine rl_skip (gw_not rfl rfl g3) rfl ?_
        refine rl_skip (gw_not rfl rfl g3) rfl ?_
        refine rl_skip (gw_not rfl rfl g3) rfl ?_
        refine rl_skip (gw_not rfl rfl g3) rfl ?_
        refine rl_val gw_none (ov_pick_t rfl g3 rfl) rfl ?_
        refine rl_nil ?_
        refine at_then ?_
        refine ct_true rfl rfl ?_
        refine ct_seq ?_
        refine ct_reg ?_
        refine rl_val gw_none (ov_build rfl (bu24_)) rfl ?_
        refine rl_store [] sz24 rfl rfl rfl rfl rfl (Nat.le_of_ble_eq_true rfl) ?_
        refine rl_val gw_none (ov_assign rfl) rfl ?_
        refine rl_nil ?_
        refine at_then ?_
        refine ct_ret ?_
        refine at_then_ret ?_
        refine at_ret2 Try.results15 (ro_cell 0 ag24 rfl rfl rfl) (ro_tmp rfl) (fun w1 hp => ?_)
        unfold frameForR
        first | (rw [okR_no (by first | (simp_all; done) | (simp_all [inB]; done) | (simp_all [inB]; omega))]; exact RetSl.nil hp.ext0) | (rw [okR_yes (by first | (simp_all; done) | (simp_all [inB]; done) | (simp_all [inB]; omega))]; simp only [Int.toNat_natCast] at *; exact RetSl.ownL 999 hp rfl no_proof (showL_len n R).symm)
      ·
        have g3b := g3
        simp only [Bool.not_eq_false', inB, Bool.and_eq_true, decide_eq_true_eq] at g3b
        obtain ⟨R, rfl⟩ : ∃ R : Nat, rods = R := ⟨rods.toNat, by omega⟩
        have hR : 1 ≤ R ∧ R ≤ 8 := by omega
        have hpb := p10_bd hR.2
        refine rl_val (gw_some rfl rfl g3) (ov_move rfl) rfl ?_
        refine rl_val (gw_some rfl rfl g3) (ov_move rfl) rfl ?_
        refine rl_callv (gw_some rfl rfl g3) goes53 rfl (fun w1 hp => l2Power_c _ R _ rfl (by omega)) rfl ?_
        refine rl_val (gw_some rfl rfl g3) (ov_sub rfl rfl (by omega)) rfl ?_
        refine rl_callv (gw_some rfl rfl g3) goes52 rfl (fun w1 hp => l1In_c _ _ _ _) rfl ?_
        refine rl_val (gw_some rfl rfl g3) (ov_not rfl) rfl ?_
        refine rl_val gw_none (ov_pick_f rfl g3 rfl) rfl ?_
        refine rl_nil ?_
        refine at_then ?_
        first | refine ct_dec rfl (fun h1 => ?_) (fun h1 => ?_) | refine ct_ndec rfl (fun h1 => ?_) (fun h1 => ?_) | refine ct_eq rfl (fun h1 => ?_) (fun h1 => ?_) | refine ct_ne rfl (fun h1 => ?_) (fun h1 => ?_) | refine ct_not rfl (fun h1 => ?_) (fun h1 => ?_) | refine ct_cond rfl (fun h1 => ?_) (fun h1 => ?_)
        ·
          refine ct_seq ?_
          refine ct_reg ?_
          refine rl_val gw_none (ov_build rfl (bu24_)) rfl ?_
          refine rl_store [] sz24 rfl rfl rfl rfl rfl (Nat.le_of_ble_eq_true rfl) ?_
          refine rl_val gw_none (ov_assign rfl) rfl ?_
          refine rl_nil ?_
          refine at_then ?_
          refine ct_ret ?_
          refine at_then_ret ?_
          refine at_ret2 Try.results15 (ro_cell 0 ag24 rfl rfl rfl) (ro_tmp rfl) (fun w1 hp => ?_)
          unfold frameForR
          first | (rw [okR_no (by first | (simp_all; done) | (simp_all [inB]; done) | (simp_all [inB]; omega))]; exact RetSl.nil hp.ext0) | (rw [okR_yes (by first | (simp_all; done) | (simp_all [inB]; done) | (simp_all [inB]; omega))]; simp only [Int.toNat_natCast] at *; exact RetSl.ownL 999 hp rfl no_proof (showL_len n R).symm)
        ·
          refine ct_skip ?_
          refine at_then ?_
          refine ct_seq ?_
          refine ct_reg ?_
          refine rl_val gw_none (ov_move rfl) rfl ?_
          refine rl_val gw_none (ov_move rfl) rfl ?_
          refine rl_val gw_none (ov_move rfl) rfl ?_
          refine rl_val gw_none (ov_move rfl) rfl ?_
          refine rl_callsl (ι := Nat × List Value) (fun i bo => .agg [.int .i64 u, .int .i64 l, sv bo (R) i.1].toArray) (fun i => flat encIntA2 (showL (n) (R)) ++ i.2) (fun i bo => Sl 2 bo (R) i.1 (flat encIntA2 (showL (n) (R))) i.2) goes54 rfl (fun w1 hp => l2For_c u l _ (n) (R) _ rfl hR (by simp_all [inB]; omega)) rfl (fun ish bosh hssh => ?_)
          refine rl_store [_] sz24 rfl rfl rfl rfl rfl (Nat.le_of_ble_eq_true rfl) ?_
          refine rl_val gw_none (ov_assign rfl) rfl ?_
          refine rl_nil ?_
          refine at_then ?_
          refine ct_ret ?_
          refine at_ret2 Try.results15 (ro_cell 1 ag24 rfl rfl rfl) (ro_tmp rfl) (fun w1 hp => ?_)
          unfold frameForR
          first | (rw [okR_no (by first | (simp_all; done) | (simp_all [inB]; done) | (simp_all [inB]; omega))]; exact RetSl.nil hp.ext0) | (rw [okR_yes (by first | (simp_all; done) | (simp_all [inB]; done) | (simp_all [inB]; omega))]; simp only [Int.toNat_natCast] at *; exact RetSl.ownL 0 hp rfl hssh (showL_len n R).symm)

theorem iFrameFor_c (u : Int) (l : Int) (rods : Int) (n : Int) (w : World) (zu : In64 u) (zl : In64 l) (zrods : In64 rods) (zn : In64 n) : Calls Try.prog 16 ([.int .i64 u, .int .i64 l, .int .i64 rods, .int .i64 n]).toArray w (fun e w' => RetSl 75 2 (flat encIntA2 (frameForR u l rods n).xs) (frameForR u l rods n).xs.length (fun s => .tuple #[.agg [.int .i64 (frameForR u l rods n).u, .int .i64 (frameForR u l rods n).l, s].toArray, .bool (frameForR u l rods n).ok]) w e w') := by
  refine calls_ct Try.func16 Try.ntmps16 rfl rfl ?_
  refine ct_seq ?_
  refine ct_reg ?_
  refine rl_alloc ze24 rfl (fun N1 => ?_)
  refine rl_val gw_none (ov_assign rfl) rfl ?_
  refine rl_nil ?_
  refine at_then ?_
  refine ct_seq ?_
  refine ct_seq ?_
  refine ct_reg ?_
  refine rl_val gw_none (ov_move rfl) rfl ?_
  refine rl_callv gw_none goes55 rfl (fun w1 hp => within_c _ _ _ _) rfl ?_
  refine rl_val gw_none (ov_not rfl) rfl ?_
  refine rl_nil ?_
  refine at_then ?_
  first | refine ct_dec rfl (fun h1 => ?_) (fun h1 => ?_) | refine ct_ndec rfl (fun h1 => ?_) (fun h1 => ?_) | refine ct_eq rfl (fun h1 => ?_) (fun h1 => ?_) | refine ct_ne rfl (fun h1 => ?_) (fun h1 => ?_) | refine ct_not rfl (fun h1 => ?_) (fun h1 => ?_) | refine ct_cond rfl (fun h1 => ?_) (fun h1 => ?_)
  ·
    refine ct_seq ?_
    refine ct_reg ?_
    refine rl_val gw_none (ov_build rfl (bu24_)) rfl ?_
    refine rl_store [] sz24 rfl rfl rfl rfl rfl (Nat.le_of_ble_eq_true rfl) ?_
    refine rl_val gw_none (ov_assign rfl) rfl ?_
    refine rl_nil ?_
    refine at_then ?_
    refine ct_ret ?_
    refine at_then_ret ?_
    refine at_ret2 Try.results16 (ro_cell 0 ag24 rfl rfl rfl) (ro_tmp rfl) (fun w1 hp => ?_)
    unfold frameForR
    first | (rw [okR_no (by first | (simp_all; done) | (simp_all [inB]; done) | (simp_all [inB]; omega))]; exact RetSl.nil hp.ext0) | (rw [okR_yes (by first | (simp_all; done) | (simp_all [inB]; done) | (simp_all [inB]; omega))]; simp only [List.length_replicate, Int.toNat_natCast] at *; exact RetSl.ownL 999 hp rfl no_proof (showL_len n R).symm)
  ·
    have h1b := h1
    simp only [Bool.not_eq_true', Bool.not_eq_false, Bool.not_eq_false', inB, Bool.and_eq_true, decide_eq_true_eq] at h1b
    obtain ⟨R, rfl⟩ : ∃ R : Nat, rods = R := ⟨rods.toNat, by omega⟩
    have hR : 1 ≤ R ∧ R ≤ 8 := by omega
    have hpb := p10_bd hR.2
    have hzf := frameB_zero (u := u) (l := l) hR
    refine ct_skip ?_
    refine at_then ?_
    refine ct_seq ?_
    refine ct_reg ?_
    refine rl_val gw_none (ov_move rfl) rfl ?_
    refine rl_val gw_none (ov_move rfl) rfl ?_
    refine rl_val gw_none (ov_move rfl) rfl ?_
    refine rl_make Try.underlying22 ze75 sz75 by75 rfl rfl (by omega) (by unfold maxLen; omega) rfl (fun N2 => ?_)
    refine rl_val gw_none (ov_build rfl (bu24_0_1_2 _ _ _ _ _)) rfl ?_
    refine rl_alloc ze24 rfl (fun N3 => ?_)
    refine rl_store [] sz24 rfl rfl rfl rfl rfl (Nat.le_of_ble_eq_true rfl) ?_
    refine rl_nil ?_
    refine at_then ?_
    refine ct_seq ?_
    refine ct_seq ?_
    refine ct_reg ?_
    first | refine rl_val gw_none (ov_loadall 0 ag24 rfl rfl rfl) rfl ?_ | refine rl_val gw_none (ov_loada 0 ag24 rfl rfl rfl (by assumption)) rfl ?_
    refine rl_callv gw_none goes56 rfl (fun w1 hp => iIsFrame_c u l (List.replicate R (⟨0, 0⟩ : IntA2)) _ _ zu zl (rep_G R) (Hp.rods hp 1 rfl hR.2)) rfl ?_
    refine rl_val gw_none (ov_not rfl) rfl ?_
    refine rl_val gw_none (ov_move rfl) rfl ?_
    refine rl_split (t := 23) rfl (fun g1 => ?_) (fun g1 => ?_)
    ·
      have g1' := g1
      try simp only [Bool.not_eq_true', Bool.not_eq_false', Bool.not_not, decide_eq_true_eq, decide_eq_false_iff_not, beq_iff_eq, beq_eq_false_iff_ne, bne_iff_ne, bne_eq_false_iff_eq, Bool.and_eq_true, Bool.or_eq_true, Bool.and_eq_false_iff, Bool.or_eq_false_iff, inB] at g1'
      refine rl_skip (gw_not rfl rfl g1) rfl ?_
      refine rl_skip (gw_not rfl rfl g1) rfl ?_
      refine rl_skip (gw_not rfl rfl g1) rfl ?_
      refine rl_skip (gw_not rfl rfl g1) rfl ?_
      refine rl_val gw_none (ov_pick_t rfl g1 rfl) rfl ?_
      refine rl_nil ?_
      refine at_then ?_
      refine ct_true rfl rfl ?_
      refine ct_seq ?_
      refine ct_reg ?_
      refine rl_val gw_none (ov_build rfl (bu24_)) rfl ?_
      refine rl_store [_, _] sz24 rfl rfl rfl rfl rfl (Nat.le_of_ble_eq_true rfl) ?_
      refine rl_val gw_none (ov_assign rfl) rfl ?_
      refine rl_nil ?_
      refine at_then ?_
      refine ct_ret ?_
      refine at_then_ret ?_
      refine at_ret2 Try.results16 (ro_cell 2 ag24 rfl rfl rfl) (ro_tmp rfl) (fun w1 hp => ?_)
      unfold frameForR
      first | (rw [okR_no (by first | (simp_all; done) | (simp_all [inB]; done) | (simp_all [inB]; omega))]; exact RetSl.nil hp.ext0) | (rw [okR_yes (by first | (simp_all; done) | (simp_all [inB]; done) | (simp_all [inB]; omega))]; simp only [List.length_replicate, Int.toNat_natCast] at *; exact RetSl.ownL 999 hp rfl no_proof (showL_len n R).symm)
    ·
      have g1' := g1
      try simp only [Bool.not_eq_true', Bool.not_eq_false', Bool.not_not, decide_eq_true_eq, decide_eq_false_iff_not, beq_iff_eq, beq_eq_false_iff_ne, bne_iff_ne, bne_eq_false_iff_eq, Bool.and_eq_true, Bool.or_eq_true, Bool.and_eq_false_iff, Bool.or_eq_false_iff, inB] at g1'
      first | refine rl_val (gw_some rfl rfl g1) (ov_loadall 0 ag24 rfl rfl rfl) rfl ?_ | refine rl_val (gw_some rfl rfl g1) (ov_loada 0 ag24 rfl rfl rfl (by assumption)) rfl ?_
      refine rl_val (gw_some rfl rfl g1) (ov_move rfl) rfl ?_
      refine rl_callv (gw_some rfl rfl g1) goes57 rfl (fun w1 hp => fitsOn_c u l (List.replicate R (⟨0, 0⟩ : IntA2)) _ n _ zu zl (rep_G R) (Hp.rods hp 1 rfl hR.2) (by simp; omega)) rfl ?_
      refine rl_val (gw_some rfl rfl g1) (ov_not rfl) rfl ?_
      refine rl_val gw_none (ov_pick_f rfl g1 rfl) rfl ?_
      refine rl_nil ?_
      refine at_then ?_
      first | refine ct_dec rfl (fun h2 => ?_) (fun h2 => ?_) | refine ct_ndec rfl (fun h2 => ?_) (fun h2 => ?_) | refine ct_eq rfl (fun h2 => ?_) (fun h2 => ?_) | refine ct_ne rfl (fun h2 => ?_) (fun h2 => ?_) | refine ct_not rfl (fun h2 => ?_) (fun h2 => ?_) | refine ct_cond rfl (fun h2 => ?_) (fun h2 => ?_)
      ·
        refine ct_seq ?_
        refine ct_reg ?_
        refine rl_val gw_none (ov_build rfl (bu24_)) rfl ?_
        refine rl_store [_, _] sz24 rfl rfl rfl rfl rfl (Nat.le_of_ble_eq_true rfl) ?_
        refine rl_val gw_none (ov_assign rfl) rfl ?_
        refine rl_nil ?_
        refine at_then ?_
        refine ct_ret ?_
        refine at_then_ret ?_
        refine at_ret2 Try.results16 (ro_cell 2 ag24 rfl rfl rfl) (ro_tmp rfl) (fun w1 hp => ?_)
        unfold frameForR
        first | (rw [okR_no (by first | (simp_all; done) | (simp_all [inB]; done) | (simp_all [inB]; omega))]; exact RetSl.nil hp.ext0) | (rw [okR_yes (by first | (simp_all; done) | (simp_all [inB]; done) | (simp_all [inB]; omega))]; simp only [List.length_replicate, Int.toNat_natCast] at *; exact RetSl.ownL 999 hp rfl no_proof (showL_len n R).symm)
      ·
        refine ct_skip ?_
        refine at_then ?_
        refine ct_seq ?_
        refine ct_reg ?_
        first | refine rl_val gw_none (ov_loadall 0 ag24 rfl rfl rfl) rfl ?_ | refine rl_val gw_none (ov_loada 0 ag24 rfl rfl rfl (by assumption)) rfl ?_
        refine rl_val gw_none (ov_move rfl) rfl ?_
        refine rl_callsl (ι := Nat × List Value) (fun i bo => .agg [.int .i64 u, .int .i64 l, sv bo ((List.replicate R (⟨0, 0⟩ : IntA2))).length i.1].toArray) (fun i => flat encIntA2 (showL (n) ((List.replicate R (⟨0, 0⟩ : IntA2))).length) ++ i.2) (fun i bo => Sl 2 bo ((List.replicate R (⟨0, 0⟩ : IntA2))).length i.1 (flat encIntA2 (showL (n) ((List.replicate R (⟨0, 0⟩ : IntA2))).length)) i.2) goes58 rfl (fun w1 hp => showing_c u l (List.replicate R (⟨0, 0⟩ : IntA2)) n _ _ zu zl (rep_G R) (Hp.rods hp 1 rfl hR.2) (by simp; omega) (by simp; omega) (by simp_all [inB]; omega)) rfl (fun ish bosh hssh => ?_)
        refine rl_store [_, _, _] sz24 rfl rfl rfl rfl rfl (Nat.le_of_ble_eq_true rfl) ?_
        refine rl_val gw_none (ov_assign rfl) rfl ?_
        refine rl_nil ?_
        refine at_then ?_
        refine ct_ret ?_
        refine at_ret2 Try.results16 (ro_cell 3 ag24 rfl rfl rfl) (ro_tmp rfl) (fun w1 hp => ?_)
        unfold frameForR
        first | (rw [okR_no (by first | (simp_all; done) | (simp_all [inB]; done) | (simp_all [inB]; omega))]; exact RetSl.nil hp.ext0) | (rw [okR_yes (by first | (simp_all; done) | (simp_all [inB]; done) | (simp_all [inB]; omega))]; simp only [List.length_replicate, Int.toNat_natCast] at *; exact RetSl.ownL 0 hp rfl hssh (showL_len n R).symm)
end Go.Proofs.Ytaohanhgengicaa
