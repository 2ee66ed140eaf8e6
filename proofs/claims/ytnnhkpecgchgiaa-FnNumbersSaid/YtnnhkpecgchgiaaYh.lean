import Derived.Test.YtnnhkpecgchgiaaYf
import Derived.Test.YtnnhkpecgchgiaaYd
import Derived.KernelRfl
set_option linter.unusedVariables false
set_option linter.unusedSimpArgs false
namespace Go.Proofs.Ytnnhkpecgchgiaa
open Go Go.RowKit K
def rvR (u l : Int) (xs : List IntA2) (k : Int) : Int × Bool := if (frameB u l xs && inB k 0 ((xs.length : Int) - 1)) = true then (rv (xs[k.toNat]?.getD ⟨0, 0⟩), true) else (0, false)
theorem rvR_yes {u l : Int} {xs : List IntA2} {k : Nat} {r : IntA2} (h : (frameB u l xs && inB k 0 ((xs.length : Int) - 1)) = true) (hx : xs[k]? = some r) : rvR u l xs k = (5 * r.a + r.b, true) := by
  rw [rvR, if_pos h, Int.toNat_natCast, hx]; rfl
theorem rvR_no {u l : Int} {xs : List IntA2} {k : Int} (h : (frameB u l xs && inB k 0 ((xs.length : Int) - 1)) = false) : rvR u l xs k = (0, false) := by rw [rvR, if_neg (by rw [h]; simp)]
def numR (u l : Int) (xs : List IntA2) : Int × Bool := if frameB u l xs = true then (numF xs, true) else (0, false)
theorem numR_yes {u l : Int} {xs : List IntA2} (h : frameB u l xs = true) : numR u l xs = (numF xs, true) := by rw [numR, if_pos h]
theorem numR_no {u l : Int} {xs : List IntA2} (h : frameB u l xs = false) : numR u l xs = (0, false) := by rw [numR, if_neg (by rw [h]; simp)]
theorem frameB_set {u l : Int} {xs : List IntA2} (hf : frameB u l xs = true) (p : Nat) {d : Int} (hd : 0 ≤ d ∧ d ≤ 9) : frameB u l (xs.set p (rodFor d)) = true := by
  have hul := frameB_ul hf
  rw [frameB_end fun k r hk hr => ?_, List.length_set]
  · unfold inB; simp only [Bool.and_eq_true, decide_eq_true_eq]; omega
  · rw [List.getElem?_set] at hr
    split at hr
    · split at hr
      · obtain rfl := Option.some.inj hr; unfold rodB inB rodFor; simp only [Bool.and_eq_true, decide_eq_true_eq]; omega
      · cases hr
    · unfold frameB at hf
      rw [Bool.and_eq_true] at hf
      exact List.all_eq_true.1 hf.2 r (List.mem_iff_getElem?.2 ⟨k, hr⟩)
theorem frameForR_facts {u l rods n : Int} (h : (frameForR u l rods n).ok = true) : frameB (frameForR u l rods n).u (frameForR u l rods n).l (frameForR u l rods n).xs = true ∧ numF (frameForR u l rods n).xs = n := by
  rcases Bool.eq_false_or_eq_true (inB rods 1 8 && inB u 1 2 && inB l 4 5 && inB n 0 (p10 rods.toNat - 1)) with hh | hh
  · unfold frameForR
    rw [okR_yes hh]
    unfold inB at hh
    simp only [Bool.and_eq_true, decide_eq_true_eq] at hh
    exact ⟨showL_frame hh.1.1.2 hh.1.2 (by omega), numF_show hh.2.1 (by omega)⟩
  · rw [frameForR, okR_no hh] at h; cases h
theorem setRodR_facts {u l rod d : Int} {xs : List IntA2} (h : (setRodR u l xs rod d).ok = true) : rvR (setRodR u l xs rod d).u (setRodR u l xs rod d).l (setRodR u l xs rod d).xs rod = (d, true) := by
  rcases Bool.eq_false_or_eq_true (frameB u l xs && inB rod 0 ((xs.length : Int) - 1) && inB d 0 9) with hh | hh
  · unfold setRodR
    rw [okR_yes hh]
    simp only [Bool.and_eq_true] at hh
    have h2 := hh.1.2
    have h3 := hh.2
    unfold inB at h2 h3
    simp only [Bool.and_eq_true, decide_eq_true_eq] at h2 h3
    obtain ⟨k, rfl⟩ : ∃ k : Nat, rod = k := ⟨rod.toNat, by omega⟩
    rw [Int.toNat_natCast]
    dsimp only
    rw [rvR_yes (r := rodFor d) (by rw [frameB_set hh.1.1 k h3, List.length_set, hh.1.2]; rfl) (by rw [List.getElem?_set, if_pos rfl, if_pos (by omega)])]
    unfold rodFor
    dsimp only
    rw [show 5 * (d / 5) + d % 5 = d by omega]
  · rw [setRodR, okR_no hh] at h; cases h
theorem clearedR_facts {u l : Int} {xs : List IntA2} (h : (clearedR u l xs).ok = true) : frameB (clearedR u l xs).u (clearedR u l xs).l (clearedR u l xs).xs = true ∧ numF (clearedR u l xs).xs = 0 := by
  rcases Bool.eq_false_or_eq_true (frameB u l xs) with hh | hh
  · have hul := frameB_ul hh
    unfold clearedR
    rw [okR_yes hh]
    exact ⟨showL_frame hul.1 hul.2.1 hul.2.2, numF_show (Int.le_refl 0) (p10_pos _)⟩
  · rw [clearedR, okR_no hh] at h; cases h
theorem clearedR_numR (u l : Int) (xs : List IntA2) : (clearedR u l xs).ok = (numR u l xs).2 := by
  unfold clearedR numR okR; split <;> rfl

theorem sFrameFor_c (u : Int) (l : Int) (rods : Int) (n : Int) (w : World) (zu : In64 u) (zl : In64 l) (zrods : In64 rods) (zn : In64 n) : Calls Try.prog 49 ([.int .i64 u, .int .i64 l, .int .i64 rods, .int .i64 n]).toArray w (fun e w' => RetSl 81 2 (flat encIntA2 (frameForR u l rods n).xs) (frameForR u l rods n).xs.length (fun s => .tuple #[.agg [.int .i64 (frameForR u l rods n).u, .int .i64 (frameForR u l rods n).l, s].toArray, .bool (frameForR u l rods n).ok]) w e w') := by
  refine calls_ct Try.func49 Try.ntmps49 rfl rfl ?_
  refine ct_seq ?_
  refine ct_reg ?_
  refine rl_alloc ze26 rfl (fun N1 => ?_)
  refine rl_val gw_none (ov_assign rfl) rfl ?_
  refine rl_nil ?_
  refine at_then ?_
  refine ct_seq ?_
  refine ct_seq ?_
  refine ct_reg ?_
  refine rl_val gw_none (ov_move rfl) rfl ?_
  refine rl_callv gw_none goes116 rfl (fun w1 hp => l1In_c _ _ _ _) rfl ?_
  refine rl_val gw_none (ov_not rfl) rfl ?_
  refine rl_val gw_none (ov_move rfl) rfl ?_
  refine rl_split (t := 13) rfl (fun g1 => ?_) (fun g1 => ?_)
  ·
    have g1' := g1
    try simp only [Bool.not_eq_true', Bool.not_eq_false', Bool.not_not, decide_eq_true_eq, decide_eq_false_iff_not, beq_iff_eq, beq_eq_false_iff_ne, bne_iff_ne, bne_eq_false_iff_eq, Bool.and_eq_true, Bool.or_eq_true, Bool.and_eq_false_iff, Bool.or_eq_false_iff, inB] at g1'
    refine rl_skip (gw_not rfl rfl g1) rfl ?_
    refine rl_skip (gw_not rfl rfl g1) rfl ?_
    refine rl_skip (gw_not rfl rfl g1) rfl ?_
    refine rl_val gw_none (ov_pick_t rfl g1 rfl) rfl ?_
    refine rl_val gw_none (ov_move rfl) rfl ?_
    refine rl_skip (gw_not rfl rfl rfl) rfl ?_
    refine rl_skip (gw_not rfl rfl rfl) rfl ?_
    refine rl_skip (gw_not rfl rfl rfl) rfl ?_
    refine rl_val gw_none (ov_pick_t rfl rfl rfl) rfl ?_
    refine rl_val gw_none (ov_move rfl) rfl ?_
    refine rl_skip (gw_not rfl rfl rfl) rfl ?_
    refine rl_skip (gw_not rfl rfl rfl) rfl ?_
    refine rl_skip (gw_not rfl rfl rfl) rfl ?_
    refine rl_skip (gw_not rfl rfl rfl) rfl ?_
    refine rl_skip (gw_not rfl rfl rfl) rfl ?_
    refine rl_skip (gw_not rfl rfl rfl) rfl ?_
    refine rl_val gw_none (ov_pick_t rfl rfl rfl) rfl ?_
    refine rl_nil ?_
    refine at_then ?_
    refine ct_true rfl rfl ?_
    refine ct_seq ?_
    refine ct_reg ?_
    refine rl_val gw_none (ov_build rfl (bu26_)) rfl ?_
    refine rl_store [] sz26 rfl rfl rfl rfl rfl (Nat.le_of_ble_eq_true rfl) ?_
    refine rl_val gw_none (ov_assign rfl) rfl ?_
    refine rl_nil ?_
    refine at_then ?_
    refine ct_ret ?_
    refine at_then_ret ?_
    refine at_ret2 Try.results49 (ro_cell 0 ag26 rfl rfl rfl) (ro_tmp rfl) (fun w1 hp => ?_)
    unfold frameForR
    first | (rw [okR_no (by first | (simp_all; done) | (simp_all [inB]; done) | (simp_all [inB]; omega))]; exact RetSl.nil hp.ext0) | (rw [okR_yes (by first | (simp_all; done) | (simp_all [inB]; done) | (simp_all [inB]; omega))]; simp only [Int.toNat_natCast] at *; exact RetSl.ownL 999 hp rfl no_proof (showL_len n R).symm)
  ·
    have g1' := g1
    try simp only [Bool.not_eq_true', Bool.not_eq_false', Bool.not_not, decide_eq_true_eq, decide_eq_false_iff_not, beq_iff_eq, beq_eq_false_iff_ne, bne_iff_ne, bne_eq_false_iff_eq, Bool.and_eq_true, Bool.or_eq_true, Bool.and_eq_false_iff, Bool.or_eq_false_iff, inB] at g1'
    refine rl_val (gw_some rfl rfl g1) (ov_move rfl) rfl ?_
    refine rl_callv (gw_some rfl rfl g1) goes116 rfl (fun w1 hp => l1In_c _ _ _ _) rfl ?_
    refine rl_val (gw_some rfl rfl g1) (ov_not rfl) rfl ?_
    refine rl_val gw_none (ov_pick_f rfl g1 rfl) rfl ?_
    refine rl_val gw_none (ov_move rfl) rfl ?_
    refine rl_split (t := 18) rfl (fun g2 => ?_) (fun g2 => ?_)
    ·
      have g2' := g2
      try simp only [Bool.not_eq_true', Bool.not_eq_false', Bool.not_not, decide_eq_true_eq, decide_eq_false_iff_not, beq_iff_eq, beq_eq_false_iff_ne, bne_iff_ne, bne_eq_false_iff_eq, Bool.and_eq_true, Bool.or_eq_true, Bool.and_eq_false_iff, Bool.or_eq_false_iff, inB] at g2'
      refine rl_skip (gw_not rfl rfl g2) rfl ?_
      refine rl_skip (gw_not rfl rfl g2) rfl ?_
      refine rl_skip (gw_not rfl rfl g2) rfl ?_
      refine rl_val gw_none (ov_pick_t rfl g2 rfl) rfl ?_
      refine rl_val gw_none (ov_move rfl) rfl ?_
      refine rl_skip (gw_not rfl rfl rfl) rfl ?_
      refine rl_skip (gw_not rfl rfl rfl) rfl ?_
      refine rl_skip (gw_not rfl rfl rfl) rfl ?_
      refine rl_skip (gw_not rfl rfl rfl) rfl ?_
      refine rl_skip (gw_not rfl rfl rfl) rfl ?_
      refine rl_skip (gw_not rfl rfl rfl) rfl ?_
      refine rl_val gw_none (ov_pick_t rfl rfl rfl) rfl ?_
      refine rl_nil ?_
      refine at_then ?_
      refine ct_true rfl rfl ?_
      refine ct_seq ?_
      refine ct_reg ?_
      refine rl_val gw_none (ov_build rfl (bu26_)) rfl ?_
      refine rl_store [] sz26 rfl rfl rfl rfl rfl (Nat.le_of_ble_eq_true rfl) ?_
      refine rl_val gw_none (ov_assign rfl) rfl ?_
      refine rl_nil ?_
      refine at_then ?_
      refine ct_ret ?_
      refine at_then_ret ?_
      refine at_ret2 Try.results49 (ro_cell 0 ag26 rfl rfl rfl) (ro_tmp rfl) (fun w1 hp => ?_)
      unfold frameForR
      first | (rw [okR_no (by first | (simp_all; done) | (simp_all [inB]; done) | (simp_all [inB]; omega))]; exact RetSl.nil hp.ext0) | (rw [okR_yes (by first | (simp_all; done) | (simp_all [inB]; done) | (simp_all [inB]; omega))]; simp only [Int.toNat_natCast] at *; exact RetSl.ownL 999 hp rfl no_proof (showL_len n R).symm)
    ·
      have g2' := g2
      try simp only [Bool.not_eq_true', Bool.not_eq_false', Bool.not_not, decide_eq_true_eq, decide_eq_false_iff_not, beq_iff_eq, beq_eq_false_iff_ne, bne_iff_ne, bne_eq_false_iff_eq, Bool.and_eq_true, Bool.or_eq_true, Bool.and_eq_false_iff, Bool.or_eq_false_iff, inB] at g2'
      refine rl_val (gw_some rfl rfl g2) (ov_move rfl) rfl ?_
      refine rl_callv (gw_some rfl rfl g2) goes116 rfl (fun w1 hp => l1In_c _ _ _ _) rfl ?_
      refine rl_val (gw_some rfl rfl g2) (ov_not rfl) rfl ?_
      refine rl_val gw_none (ov_pick_f rfl g2 rfl) rfl ?_
      refine rl_val gw_none (ov_move rfl) rfl ?_
      refine rl_split (t := 23) rfl (fun g3 => ?_) (fun g3 => ?_)
      ·
        have g3' := g3
        try simp only [Bool.not_eq_true', Bool.not_eq_false', Bool.not_not, decide_eq_true_eq, decide_eq_false_iff_not, beq_iff_eq, beq_eq_false_iff_ne, bne_iff_ne, bne_eq_false_iff_eq, Bool.and_eq_true, Bool.or_eq_true, Bool.and_eq_false_iff, Bool.or_eq_false_iff, inB] at g3'
        refine rl_skip (gw_not rfl rfl g3) rfl ?_
        refine rl_skip (gw_not rfl rfl g3) rfl ?_
        refine rl_skip (gw_not rfl rfl g3) rfl ?_
        refine rl_skip (gw_not rfl rfl g3) rfl ?_
        refine rl_skip (gw_not rfl rfl g3) rfl ?_
        refine rl_skip (gw_not rfl rfl g3) rfl ?_
        refine rl_val gw_none (ov_pick_t rfl g3 rfl) rfl ?_
        refine rl_nil ?_
        refine at_then ?_
        refine ct_true rfl rfl ?_
        refine ct_seq ?_
        refine ct_reg ?_
        refine rl_val gw_none (ov_build rfl (bu26_)) rfl ?_
        refine rl_store [] sz26 rfl rfl rfl rfl rfl (Nat.le_of_ble_eq_true rfl) ?_
        refine rl_val gw_none (ov_assign rfl) rfl ?_
        refine rl_nil ?_
        refine at_then ?_
        refine ct_ret ?_
        refine at_then_ret ?_
        refine at_ret2 Try.results49 (ro_cell 0 ag26 rfl rfl rfl) (ro_tmp rfl) (fun w1 hp => ?_)
        unfold frameForR
        first | (rw [okR_no (by first | (simp_all; done) | (simp_all [inB]; done) | (simp_all [inB]; omega))]; exact RetSl.nil hp.ext0) | (rw [okR_yes (by first | (simp_all; done) | (simp_all [inB]; done) | (simp_all [inB]; omega))]; simp only [Int.toNat_natCast] at *; exact RetSl.ownL 999 hp rfl no_proof (showL_len n R).symm)
      ·
        have g3b := g3
        simp only [Bool.not_eq_false', inB, Bool.and_eq_true, decide_eq_true_eq] at g3b
        obtain ⟨R, rfl⟩ : ∃ R : Nat, rods = R := ⟨rods.toNat, by omega⟩
        have hR : 1 ≤ R ∧ R ≤ 8 := by omega
        have hpb := p10_bd hR.2
        refine rl_val (gw_some rfl rfl g3) (ov_move rfl) rfl ?_
        refine rl_val (gw_some rfl rfl g3) (ov_move rfl) rfl ?_
        refine rl_callv (gw_some rfl rfl g3) goes107 rfl (fun w1 hp => l2Power_c _ R _ rfl (by omega)) rfl ?_
        refine rl_val (gw_some rfl rfl g3) (ov_sub rfl rfl (by omega)) rfl ?_
        refine rl_callv (gw_some rfl rfl g3) goes116 rfl (fun w1 hp => l1In_c _ _ _ _) rfl ?_
        refine rl_val (gw_some rfl rfl g3) (ov_not rfl) rfl ?_
        refine rl_val gw_none (ov_pick_f rfl g3 rfl) rfl ?_
        refine rl_nil ?_
        refine at_then ?_
        first | refine ct_dec rfl (fun h1 => ?_) (fun h1 => ?_) | refine ct_ndec rfl (fun h1 => ?_) (fun h1 => ?_) | refine ct_eq rfl (fun h1 => ?_) (fun h1 => ?_) | refine ct_ne rfl (fun h1 => ?_) (fun h1 => ?_) | refine ct_not rfl (fun h1 => ?_) (fun h1 => ?_) | refine ct_cond rfl (fun h1 => ?_) (fun h1 => ?_)
        ·
          refine ct_seq ?_
          refine ct_reg ?_
          refine rl_val gw_none (ov_build rfl (bu26_)) rfl ?_
          refine rl_store [] sz26 rfl rfl rfl rfl rfl (Nat.le_of_ble_eq_true rfl) ?_
          refine rl_val gw_none (ov_assign rfl) rfl ?_
          refine rl_nil ?_
          refine at_then ?_
          refine ct_ret ?_
          refine at_then_ret ?_
          refine at_ret2 Try.results49 (ro_cell 0 ag26 rfl rfl rfl) (ro_tmp rfl) (fun w1 hp => ?_)
          unfold frameForR
          first | (rw [okR_no (by first | (simp_all; done) | (simp_all [inB]; done) | (simp_all [inB]; omega))]; exact RetSl.nil hp.ext0) | (rw [okR_yes (by first | (simp_all; done) | (simp_all [inB]; done) | (simp_all [inB]; omega))]; simp only [Int.toNat_natCast] at *; exact RetSl.ownL 999 hp rfl no_proof (showL_len n R).symm)
        ·
          refine ct_skip ?_
          refine at_then ?_
          refine ct_seq ?_
          refine ct_reg ?_
          refine rl_val gw_none (ov_move rfl) rfl ?_
          refine rl_val gw_none (ov_move rfl) rfl ?_
          refine rl_val gw_none (ov_move rfl) rfl ?_
          refine rl_val gw_none (ov_move rfl) rfl ?_
          refine rl_callsl (ι := Nat × List Value) (fun i bo => .agg [.int .i64 u, .int .i64 l, sv bo (R) i.1].toArray) (fun i => flat encIntA2 (showL (n) (R)) ++ i.2) (fun i bo => Sl 2 bo (R) i.1 (flat encIntA2 (showL (n) (R))) i.2) goes106 rfl (fun w1 hp => l2For_c u l _ (n) (R) _ rfl hR (by simp_all [inB]; omega)) rfl (fun ish bosh hssh => ?_)
          refine rl_store [_] sz26 rfl rfl rfl rfl rfl (Nat.le_of_ble_eq_true rfl) ?_
          refine rl_val gw_none (ov_assign rfl) rfl ?_
          refine rl_nil ?_
          refine at_then ?_
          refine ct_ret ?_
          refine at_ret2 Try.results49 (ro_cell 1 ag26 rfl rfl rfl) (ro_tmp rfl) (fun w1 hp => ?_)
          unfold frameForR
          first | (rw [okR_no (by first | (simp_all; done) | (simp_all [inB]; done) | (simp_all [inB]; omega))]; exact RetSl.nil hp.ext0) | (rw [okR_yes (by first | (simp_all; done) | (simp_all [inB]; done) | (simp_all [inB]; omega))]; simp only [Int.toNat_natCast] at *; exact RetSl.ownL 0 hp rfl hssh (showL_len n R).symm)

theorem iFrameFor_c (u : Int) (l : Int) (rods : Int) (n : Int) (w : World) (zu : In64 u) (zl : In64 l) (zrods : In64 rods) (zn : In64 n) : Calls Try.prog 48 ([.int .i64 u, .int .i64 l, .int .i64 rods, .int .i64 n]).toArray w (fun e w' => RetSl 81 2 (flat encIntA2 (frameForR u l rods n).xs) (frameForR u l rods n).xs.length (fun s => .tuple #[.agg [.int .i64 (frameForR u l rods n).u, .int .i64 (frameForR u l rods n).l, s].toArray, .bool (frameForR u l rods n).ok]) w e w') := by
  refine calls_ct Try.func48 Try.ntmps48 rfl rfl ?_
  refine ct_seq ?_
  refine ct_reg ?_
  refine rl_alloc ze26 rfl (fun N1 => ?_)
  refine rl_val gw_none (ov_assign rfl) rfl ?_
  refine rl_nil ?_
  refine at_then ?_
  refine ct_seq ?_
  refine ct_seq ?_
  refine ct_reg ?_
  refine rl_val gw_none (ov_move rfl) rfl ?_
  refine rl_callv gw_none goes112 rfl (fun w1 hp => within_c _ _ _ _) rfl ?_
  refine rl_val gw_none (ov_not rfl) rfl ?_
  refine rl_nil ?_
  refine at_then ?_
  first | refine ct_dec rfl (fun h1 => ?_) (fun h1 => ?_) | refine ct_ndec rfl (fun h1 => ?_) (fun h1 => ?_) | refine ct_eq rfl (fun h1 => ?_) (fun h1 => ?_) | refine ct_ne rfl (fun h1 => ?_) (fun h1 => ?_) | refine ct_not rfl (fun h1 => ?_) (fun h1 => ?_) | refine ct_cond rfl (fun h1 => ?_) (fun h1 => ?_)
  ·
    refine ct_seq ?_
    refine ct_reg ?_
    refine rl_val gw_none (ov_build rfl (bu26_)) rfl ?_
    refine rl_store [] sz26 rfl rfl rfl rfl rfl (Nat.le_of_ble_eq_true rfl) ?_
    refine rl_val gw_none (ov_assign rfl) rfl ?_
    refine rl_nil ?_
    refine at_then ?_
    refine ct_ret ?_
    refine at_then_ret ?_
    refine at_ret2 Try.results48 (ro_cell 0 ag26 rfl rfl rfl) (ro_tmp rfl) (fun w1 hp => ?_)
    unfold frameForR
    first | (rw [okR_no (by first | (simp_all; done) | (simp_all [inB]; done) | (simp_all [inB]; omega))]; exact RetSl.nil hp.ext0) | (rw [okR_yes (by first | (simp_all; done) | (simp_all [inB]; done) | (simp_all [inB]; omega))]; simp only [List.length_replicate, Int.toNat_natCast] at *; exact RetSl.ownL 999 hp rfl no_proof (showL_len n R).symm)
  ·
    have h1b := h1
    simp only [Bool.not_eq_true', Bool.not_eq_false, Bool.not_eq_false', inB, Bool.and_eq_true, decide_eq_true_eq] at h1b
    obtain ⟨R, rfl⟩ : ∃ R : Nat, rods = R := ⟨rods.toNat, by omega⟩
    have hR : 1 ≤ R ∧ R ≤ 8 := by omega
    have hpb := p10_bd hR.2
    have hzf := frameB_zero (u := u) (l := l) hR
    refine ct_skip ?_
    refine at_then ?_
    refine ct_seq ?_
    refine ct_reg ?_
    refine rl_val gw_none (ov_move rfl) rfl ?_
    refine rl_val gw_none (ov_move rfl) rfl ?_
    refine rl_val gw_none (ov_move rfl) rfl ?_
    refine rl_make Try.underlying22 ze81 sz81 by81 rfl rfl (by omega) (by unfold maxLen; omega) rfl (fun N2 => ?_)
    refine rl_val gw_none (ov_build rfl (bu26_0_1_2 _ _ _ _ _)) rfl ?_
    refine rl_alloc ze26 rfl (fun N3 => ?_)
    refine rl_store [] sz26 rfl rfl rfl rfl rfl (Nat.le_of_ble_eq_true rfl) ?_
    refine rl_nil ?_
    refine at_then ?_
    refine ct_seq ?_
    refine ct_seq ?_
    refine ct_reg ?_
    first | refine rl_val gw_none (ov_loadall 0 ag26 rfl rfl rfl) rfl ?_ | refine rl_val gw_none (ov_loadp 0 ag26 rfl rfl (vs := [_, _, _]) rfl rfl) rfl ?_ | refine rl_val gw_none (ov_loada 0 ag26 rfl rfl rfl (by assumption)) rfl ?_
    refine rl_callv gw_none goes113 rfl (fun w1 hp => iIsFrame_c u l (List.replicate R (⟨0, 0⟩ : IntA2)) _ _ zu zl (rep_G R) (Hp.rods hp 1 rfl hR.2)) rfl ?_
    refine rl_val gw_none (ov_not rfl) rfl ?_
    refine rl_val gw_none (ov_move rfl) rfl ?_
    refine rl_split (t := 23) rfl (fun g1 => ?_) (fun g1 => ?_)
    ·
      have g1' := g1
      try simp only [Bool.not_eq_true', Bool.not_eq_false', Bool.not_not, decide_eq_true_eq, decide_eq_false_iff_not, beq_iff_eq, beq_eq_false_iff_ne, bne_iff_ne, bne_eq_false_iff_eq, Bool.and_eq_true, Bool.or_eq_true, Bool.and_eq_false_iff, Bool.or_eq_false_iff, inB] at g1'
      refine rl_skip (gw_not rfl rfl g1) rfl ?_
      refine rl_skip (gw_not rfl rfl g1) rfl ?_
      refine rl_skip (gw_not rfl rfl g1) rfl ?_
      refine rl_skip (gw_not rfl rfl g1) rfl ?_
      refine rl_val gw_none (ov_pick_t rfl g1 rfl) rfl ?_
      refine rl_nil ?_
      refine at_then ?_
      refine ct_true rfl rfl ?_
      refine ct_seq ?_
      refine ct_reg ?_
      refine rl_val gw_none (ov_build rfl (bu26_)) rfl ?_
      refine rl_store [_, _] sz26 rfl rfl rfl rfl rfl (Nat.le_of_ble_eq_true rfl) ?_
      refine rl_val gw_none (ov_assign rfl) rfl ?_
      refine rl_nil ?_
      refine at_then ?_
      refine ct_ret ?_
      refine at_then_ret ?_
      refine at_ret2 Try.results48 (ro_cell 2 ag26 rfl rfl rfl) (ro_tmp rfl) (fun w1 hp => ?_)
      unfold frameForR
      first | (rw [okR_no (by first | (simp_all; done) | (simp_all [inB]; done) | (simp_all [inB]; omega))]; exact RetSl.nil hp.ext0) | (rw [okR_yes (by first | (simp_all; done) | (simp_all [inB]; done) | (simp_all [inB]; omega))]; simp only [List.length_replicate, Int.toNat_natCast] at *; exact RetSl.ownL 999 hp rfl no_proof (showL_len n R).symm)
    ·
      have g1' := g1
      try simp only [Bool.not_eq_true', Bool.not_eq_false', Bool.not_not, decide_eq_true_eq, decide_eq_false_iff_not, beq_iff_eq, beq_eq_false_iff_ne, bne_iff_ne, bne_eq_false_iff_eq, Bool.and_eq_true, Bool.or_eq_true, Bool.and_eq_false_iff, Bool.or_eq_false_iff, inB] at g1'
      first | refine rl_val (gw_some rfl rfl g1) (ov_loadall 0 ag26 rfl rfl rfl) rfl ?_ | refine rl_val (gw_some rfl rfl g1) (ov_loadp 0 ag26 rfl rfl (vs := [_, _, _]) rfl rfl) rfl ?_ | refine rl_val (gw_some rfl rfl g1) (ov_loada 0 ag26 rfl rfl rfl (by assumption)) rfl ?_
      refine rl_val (gw_some rfl rfl g1) (ov_move rfl) rfl ?_
      refine rl_callv (gw_some rfl rfl g1) goes114 rfl (fun w1 hp => fitsOn_c u l (List.replicate R (⟨0, 0⟩ : IntA2)) _ n _ zu zl (rep_G R) (Hp.rods hp 1 rfl hR.2) (by simp; omega)) rfl ?_
      refine rl_val (gw_some rfl rfl g1) (ov_not rfl) rfl ?_
      refine rl_val gw_none (ov_pick_f rfl g1 rfl) rfl ?_
      refine rl_nil ?_
      refine at_then ?_
      first | refine ct_dec rfl (fun h2 => ?_) (fun h2 => ?_) | refine ct_ndec rfl (fun h2 => ?_) (fun h2 => ?_) | refine ct_eq rfl (fun h2 => ?_) (fun h2 => ?_) | refine ct_ne rfl (fun h2 => ?_) (fun h2 => ?_) | refine ct_not rfl (fun h2 => ?_) (fun h2 => ?_) | refine ct_cond rfl (fun h2 => ?_) (fun h2 => ?_)
      ·
        refine ct_seq ?_
        refine ct_reg ?_
        refine rl_val gw_none (ov_build rfl (bu26_)) rfl ?_
        refine rl_store [_, _] sz26 rfl rfl rfl rfl rfl (Nat.le_of_ble_eq_true rfl) ?_
        refine rl_val gw_none (ov_assign rfl) rfl ?_
        refine rl_nil ?_
        refine at_then ?_
        refine ct_ret ?_
        refine at_then_ret ?_
        refine at_ret2 Try.results48 (ro_cell 2 ag26 rfl rfl rfl) (ro_tmp rfl) (fun w1 hp => ?_)
        unfold frameForR
        first | (rw [okR_no (by first | (simp_all; done) | (simp_all [inB]; done) | (simp_all [inB]; omega))]; exact RetSl.nil hp.ext0) | (rw [okR_yes (by first | (simp_all; done) | (simp_all [inB]; done) | (simp_all [inB]; omega))]; simp only [List.length_replicate, Int.toNat_natCast] at *; exact RetSl.ownL 999 hp rfl no_proof (showL_len n R).symm)
      ·
        refine ct_skip ?_
        refine at_then ?_
        refine ct_seq ?_
        refine ct_reg ?_
        first | refine rl_val gw_none (ov_loadall 0 ag26 rfl rfl rfl) rfl ?_ | refine rl_val gw_none (ov_loadp 0 ag26 rfl rfl (vs := [_, _, _]) rfl rfl) rfl ?_ | refine rl_val gw_none (ov_loada 0 ag26 rfl rfl rfl (by assumption)) rfl ?_
        refine rl_val gw_none (ov_move rfl) rfl ?_
        refine rl_callsl (ι := Nat × List Value) (fun i bo => .agg [.int .i64 u, .int .i64 l, sv bo ((List.replicate R (⟨0, 0⟩ : IntA2))).length i.1].toArray) (fun i => flat encIntA2 (showL (n) ((List.replicate R (⟨0, 0⟩ : IntA2))).length) ++ i.2) (fun i bo => Sl 2 bo ((List.replicate R (⟨0, 0⟩ : IntA2))).length i.1 (flat encIntA2 (showL (n) ((List.replicate R (⟨0, 0⟩ : IntA2))).length)) i.2) goes115 rfl (fun w1 hp => showing_c u l (List.replicate R (⟨0, 0⟩ : IntA2)) n _ _ zu zl (rep_G R) (Hp.rods hp 1 rfl hR.2) (by simp; omega) (by simp; omega) (by simp_all [inB]; omega)) rfl (fun ish bosh hssh => ?_)
        refine rl_store [_, _, _] sz26 rfl rfl rfl rfl rfl (Nat.le_of_ble_eq_true rfl) ?_
        refine rl_val gw_none (ov_assign rfl) rfl ?_
        refine rl_nil ?_
        refine at_then ?_
        refine ct_ret ?_
        refine at_ret2 Try.results48 (ro_cell 3 ag26 rfl rfl rfl) (ro_tmp rfl) (fun w1 hp => ?_)
        unfold frameForR
        first | (rw [okR_no (by first | (simp_all; done) | (simp_all [inB]; done) | (simp_all [inB]; omega))]; exact RetSl.nil hp.ext0) | (rw [okR_yes (by first | (simp_all; done) | (simp_all [inB]; done) | (simp_all [inB]; omega))]; simp only [List.length_replicate, Int.toNat_natCast] at *; exact RetSl.ownL 0 hp rfl hssh (showL_len n R).symm)

theorem iSetRod_c (u : Int) (l : Int) (xs : List IntA2) (rod : Int) (d : Int) (vxs : Value) (w : World) (zu : In64 u) (zl : In64 l) (hGxs : ∀ y ∈ xs, GIntA2 y) (hsxs : SR w 2 vxs xs.length (flat encIntA2 xs)) (zrod : In64 rod) (zd : In64 d) : Calls Try.prog 53 ([.agg (List.toArray (α := Value) [.int .i64 u, .int .i64 l, vxs]), .int .i64 rod, .int .i64 d]).toArray w (fun e w' => RetSl 81 2 (flat encIntA2 (setRodR u l xs rod d).xs) (setRodR u l xs rod d).xs.length (fun s => .tuple #[.agg [.int .i64 (setRodR u l xs rod d).u, .int .i64 (setRodR u l xs rod d).l, s].toArray, .bool (setRodR u l xs rod d).ok]) w e w') := by
  obtain ⟨axs, capxs, rfl, hcapxs, hmaxxs⟩ := hsxs.slice
  have hlenxs := hsxs.len_le
  refine calls_ct Try.func53 Try.ntmps53 rfl rfl ?_
  refine ct_seq ?_
  refine ct_reg ?_
  refine rl_box rfl rfl (fun N1 => ?_)
  refine rl_alloc ze26 rfl (fun N2 => ?_)
  refine rl_val gw_none (ov_assign rfl) rfl ?_
  refine rl_nil ?_
  refine at_then ?_
  refine ct_seq ?_
  refine ct_seq ?_
  refine ct_reg ?_
  first | refine rl_val gw_none (ov_loadall 1 ag26 rfl rfl rfl) rfl ?_ | refine rl_val gw_none (ov_loadp 1 ag26 rfl rfl (vs := [_, _, _]) rfl rfl) rfl ?_ | refine rl_val gw_none (ov_loada 1 ag26 rfl rfl rfl (by assumption)) rfl ?_
  refine rl_callv gw_none goes113 rfl (fun w1 hp => iIsFrame_c u l xs _ _ zu zl hGxs (hsxs.ext hp.ext0)) rfl ?_
  refine rl_val gw_none (ov_not rfl) rfl ?_
  refine rl_val gw_none (ov_move rfl) rfl ?_
  refine rl_split (t := 12) rfl (fun g1 => ?_) (fun g1 => ?_)
  ·
    have g1' := g1
    try simp only [Bool.not_eq_true', Bool.not_eq_false', Bool.not_not, decide_eq_true_eq, decide_eq_false_iff_not, beq_iff_eq, beq_eq_false_iff_ne, bne_iff_ne, bne_eq_false_iff_eq, Bool.and_eq_true, Bool.or_eq_true, Bool.and_eq_false_iff, Bool.or_eq_false_iff, inB] at g1'
    refine rl_skip (gw_not rfl rfl g1) rfl ?_
    refine rl_skip (gw_not rfl rfl g1) rfl ?_
    refine rl_skip (gw_not rfl rfl g1) rfl ?_
    refine rl_skip (gw_not rfl rfl g1) rfl ?_
    refine rl_val gw_none (ov_pick_t rfl g1 rfl) rfl ?_
    refine rl_val gw_none (ov_move rfl) rfl ?_
    refine rl_skip (gw_not rfl rfl rfl) rfl ?_
    refine rl_skip (gw_not rfl rfl rfl) rfl ?_
    refine rl_skip (gw_not rfl rfl rfl) rfl ?_
    refine rl_val gw_none (ov_pick_t rfl rfl rfl) rfl ?_
    refine rl_nil ?_
    refine at_then ?_
    refine ct_true rfl rfl ?_
    refine ct_seq ?_
    refine ct_reg ?_
    refine rl_val gw_none (ov_build rfl (bu26_)) rfl ?_
    refine rl_store [] sz26 rfl rfl rfl rfl rfl (Nat.le_of_ble_eq_true rfl) ?_
    refine rl_val gw_none (ov_assign rfl) rfl ?_
    refine rl_nil ?_
    refine at_then ?_
    refine ct_ret ?_
    refine at_then_ret ?_
    refine at_ret2 Try.results53 (ro_cell 0 ag26 rfl rfl rfl) (ro_tmp rfl) (fun w1 hp => ?_)
    unfold setRodR
    first | (rw [okR_no (by first | (simp_all; done) | (simp_all [inB]; done) | (simp_all [inB]; omega) | (cases hAt0 : (frameB u l xs) <;> cases hAt1 : (inB rod 0 ((xs.length : Int) - 1)) <;> cases hAt2 : (inB d 0 9) <;> simp_all; done))]; exact RetSl.nil hp.ext0) | (rw [okR_yes (by first | (simp_all; done) | (simp_all [inB]; done) | (simp_all [inB]; omega) | (cases hAt0 : (frameB u l xs) <;> cases hAt1 : (inB rod 0 ((xs.length : Int) - 1)) <;> cases hAt2 : (inB d 0 9) <;> simp_all; done))]; exact RetSl.ownL 999 hp rfl (Sl.same encIntA2_len no_proof (by simp)) (by simp))
  ·
    have hf : frameB u l xs = true := by simpa using g1
    have h8 := (frameB_ul hf).2.2.2
    have hl1 := (frameB_ul hf).2.2.1
    have hnb := numF_all hf
    first | refine rl_val (gw_some rfl rfl g1) (ov_loadall 1 ag26 rfl rfl rfl) rfl ?_ | refine rl_val (gw_some rfl rfl g1) (ov_loadp 1 ag26 rfl rfl (vs := [_, _, _]) rfl rfl) rfl ?_ | refine rl_val (gw_some rfl rfl g1) (ov_loada 1 ag26 rfl rfl rfl (by assumption)) rfl ?_
    refine rl_val (gw_some rfl rfl g1) (ov_move rfl) rfl ?_
    refine rl_callv (gw_some rfl rfl g1) goes121 rfl (fun w1 hp => hasRod_c u l xs _ rod _ zu zl hGxs (hsxs.ext hp.ext0)) rfl ?_
    refine rl_val (gw_some rfl rfl g1) (ov_not rfl) rfl ?_
    refine rl_val gw_none (ov_pick_f rfl g1 rfl) rfl ?_
    refine rl_val gw_none (ov_move rfl) rfl ?_
    refine rl_split (t := 18) rfl (fun g2 => ?_) (fun g2 => ?_)
    ·
      have g2' := g2
      try simp only [Bool.not_eq_true', Bool.not_eq_false', Bool.not_not, decide_eq_true_eq, decide_eq_false_iff_not, beq_iff_eq, beq_eq_false_iff_ne, bne_iff_ne, bne_eq_false_iff_eq, Bool.and_eq_true, Bool.or_eq_true, Bool.and_eq_false_iff, Bool.or_eq_false_iff, inB] at g2'
      refine rl_skip (gw_not rfl rfl g2) rfl ?_
      refine rl_skip (gw_not rfl rfl g2) rfl ?_
      refine rl_skip (gw_not rfl rfl g2) rfl ?_
      refine rl_val gw_none (ov_pick_t rfl g2 rfl) rfl ?_
      refine rl_nil ?_
      refine at_then ?_
      refine ct_true rfl rfl ?_
      refine ct_seq ?_
      refine ct_reg ?_
      refine rl_val gw_none (ov_build rfl (bu26_)) rfl ?_
      refine rl_store [] sz26 rfl rfl rfl rfl rfl (Nat.le_of_ble_eq_true rfl) ?_
      refine rl_val gw_none (ov_assign rfl) rfl ?_
      refine rl_nil ?_
      refine at_then ?_
      refine ct_ret ?_
      refine at_then_ret ?_
      refine at_ret2 Try.results53 (ro_cell 0 ag26 rfl rfl rfl) (ro_tmp rfl) (fun w1 hp => ?_)
      unfold setRodR
      first | (rw [okR_no (by first | (simp_all; done) | (simp_all [inB]; done) | (simp_all [inB]; omega) | (cases hAt0 : (frameB u l xs) <;> cases hAt1 : (inB rod 0 ((xs.length : Int) - 1)) <;> cases hAt2 : (inB d 0 9) <;> simp_all; done))]; exact RetSl.nil hp.ext0) | (rw [okR_yes (by first | (simp_all; done) | (simp_all [inB]; done) | (simp_all [inB]; omega) | (cases hAt0 : (frameB u l xs) <;> cases hAt1 : (inB rod 0 ((xs.length : Int) - 1)) <;> cases hAt2 : (inB d 0 9) <;> simp_all; done))]; exact RetSl.ownL 999 hp rfl (Sl.same encIntA2_len no_proof (by simp)) (by simp))
    ·
      have g2' := g2
      try simp only [Bool.not_eq_true', Bool.not_eq_false', Bool.not_not, decide_eq_true_eq, decide_eq_false_iff_not, beq_iff_eq, beq_eq_false_iff_ne, bne_iff_ne, bne_eq_false_iff_eq, Bool.and_eq_true, Bool.or_eq_true, Bool.and_eq_false_iff, Bool.or_eq_false_iff, inB] at g2'
      refine rl_val (gw_some rfl rfl g2) (ov_move rfl) rfl ?_
      refine rl_callv (gw_some rfl rfl g2) goes112 rfl (fun w1 hp => within_c _ _ _ _) rfl ?_
      refine rl_val (gw_some rfl rfl g2) (ov_not rfl) rfl ?_
      refine rl_val gw_none (ov_pick_f rfl g2 rfl) rfl ?_
      refine rl_nil ?_
      refine at_then ?_
      first | refine ct_dec rfl (fun h1 => ?_) (fun h1 => ?_) | refine ct_ndec rfl (fun h1 => ?_) (fun h1 => ?_) | refine ct_eq rfl (fun h1 => ?_) (fun h1 => ?_) | refine ct_ne rfl (fun h1 => ?_) (fun h1 => ?_) | refine ct_not rfl (fun h1 => ?_) (fun h1 => ?_) | refine ct_cond rfl (fun h1 => ?_) (fun h1 => ?_)
      ·
        refine ct_seq ?_
        refine ct_reg ?_
        refine rl_val gw_none (ov_build rfl (bu26_)) rfl ?_
        refine rl_store [] sz26 rfl rfl rfl rfl rfl (Nat.le_of_ble_eq_true rfl) ?_
        refine rl_val gw_none (ov_assign rfl) rfl ?_
        refine rl_nil ?_
        refine at_then ?_
        refine ct_ret ?_
        refine at_then_ret ?_
        refine at_ret2 Try.results53 (ro_cell 0 ag26 rfl rfl rfl) (ro_tmp rfl) (fun w1 hp => ?_)
        unfold setRodR
        first | (rw [okR_no (by first | (simp_all; done) | (simp_all [inB]; done) | (simp_all [inB]; omega) | (cases hAt0 : (frameB u l xs) <;> cases hAt1 : (inB rod 0 ((xs.length : Int) - 1)) <;> cases hAt2 : (inB d 0 9) <;> simp_all; done))]; exact RetSl.nil hp.ext0) | (rw [okR_yes (by first | (simp_all; done) | (simp_all [inB]; done) | (simp_all [inB]; omega) | (cases hAt0 : (frameB u l xs) <;> cases hAt1 : (inB rod 0 ((xs.length : Int) - 1)) <;> cases hAt2 : (inB d 0 9) <;> simp_all; done))]; exact RetSl.ownL 999 hp rfl (Sl.same encIntA2_len no_proof (by simp)) (by simp))
      ·
        have hrb := g2
        simp only [inB, Bool.not_eq_false', Bool.and_eq_true, decide_eq_true_eq] at hrb
        have hdb := h1
        simp only [inB, Bool.not_eq_false', Bool.and_eq_true, decide_eq_true_eq] at hdb
        refine ct_skip ?_
        refine at_then ?_
        refine ct_seq ?_
        refine ct_reg ?_
        first | refine rl_val gw_none (ov_loadall 1 ag26 rfl rfl rfl) rfl ?_ | refine rl_val gw_none (ov_loadp 1 ag26 rfl rfl (vs := [_, _, _]) rfl rfl) rfl ?_ | refine rl_val gw_none (ov_loada 1 ag26 rfl rfl rfl (by assumption)) rfl ?_
        refine rl_callsl (ι := Nat × List Value) (fun i bo => .agg [.int .i64 u, .int .i64 l, sv bo (xs).length i.1].toArray) (fun i => flat encIntA2 (xs) ++ i.2) (fun i bo => Sl 2 bo (xs).length i.1 (flat encIntA2 (xs)) i.2) goes78 rfl (fun w1 hp => own_c u l xs _ _ zu zl hGxs (hsxs.ext hp.ext0) h8) rfl (fun iow boow hsow => ?_)
        obtain ⟨bow, rfl⟩ := Sl.some hsow (by omega)
        refine rl_alloc ze26 rfl (fun N3 => ?_)
        refine rl_store [] sz26 rfl rfl rfl rfl rfl (Nat.le_of_ble_eq_true rfl) ?_
        refine rl_nil ?_
        refine at_then ?_
        refine ct_seq ?_
        refine ct_dr 6 (by kernel_rfl) (by kernel_rfl) ?_
        refine ql_val gw_none (ov_field fo26_2 rfl) rfl ?_
        first | refine ql_val gw_none (ov_load 0 sc22 rfl rfl rfl) rfl ?_ | refine ql_val gw_none (ov_load 0 sc22 rfl rfl (by assumption)) rfl ?_
        refine ql_val gw_none (ov_move rfl) rfl ?_
        refine ql_val gw_none (ov_move rfl) rfl ?_
        refine ql_callv gw_none goes122 rfl (fun w1 hp => rodOf_c _ _ (by omega)) rfl ?_
        first | refine ql_val gw_none (ov_ix Try.underlying22 sz81 rfl rfl _ rfl (by omega)) rfl ?_ | refine ql_val gw_none (ov_ix Try.underlying22 sz81 rfl rfl (rod.toNat) (by omega) (by omega)) rfl ?_
        refine ql_nil ?_
        refine rl_store [_] sz81 rfl rfl rfl rfl rfl (by rw [List.length_append, flat_length encIntA2_len]; omega) ?_
        refine rl_mem (fun _ hq => hq.cong (congrArg (fun x => _ :: (_, _, x) :: _) (flatSetP encIntA2_len (rodFor d) _ (show rod.toNat < xs.length by omega)))) ?_
        refine rl_nil ?_
        refine at_then ?_
        refine ct_seq ?_
        refine ct_reg ?_
        first | refine rl_val gw_none (ov_loadall 0 ag26 rfl rfl rfl) rfl ?_ | refine rl_val gw_none (ov_loadp 0 ag26 rfl rfl (vs := [_, _, _]) rfl rfl) rfl ?_ | refine rl_val gw_none (ov_loada 0 ag26 rfl rfl rfl (by assumption)) rfl ?_
        refine rl_store [_, _] sz26 rfl rfl rfl rfl rfl (Nat.le_of_ble_eq_true rfl) ?_
        refine rl_val gw_none (ov_assign rfl) rfl ?_
        refine rl_nil ?_
        refine at_then ?_
        refine ct_ret ?_
        refine at_ret2 Try.results53 (ro_cell 2 ag26 rfl rfl rfl) (ro_tmp rfl) (fun w1 hp => ?_)
        unfold setRodR
        first | (rw [okR_no (by first | (simp_all; done) | (simp_all [inB]; done) | (simp_all [inB]; omega) | (cases hAt0 : (frameB u l xs) <;> cases hAt1 : (inB rod 0 ((xs.length : Int) - 1)) <;> cases hAt2 : (inB d 0 9) <;> simp_all; done))]; exact RetSl.nil hp.ext0) | (rw [okR_yes (by first | (simp_all; done) | (simp_all [inB]; done) | (simp_all [inB]; omega) | (cases hAt0 : (frameB u l xs) <;> cases hAt1 : (inB rod 0 ((xs.length : Int) - 1)) <;> cases hAt2 : (inB d 0 9) <;> simp_all; done))]; exact RetSl.ownL 1 hp rfl (Sl.same encIntA2_len hsow (by simp)) (by simp))

theorem sSetRod_c (u : Int) (l : Int) (xs : List IntA2) (rod : Int) (d : Int) (vxs : Value) (w : World) (zu : In64 u) (zl : In64 l) (hGxs : ∀ y ∈ xs, GIntA2 y) (hsxs : SR w 2 vxs xs.length (flat encIntA2 xs)) (zrod : In64 rod) (zd : In64 d) : Calls Try.prog 54 ([.agg (List.toArray (α := Value) [.int .i64 u, .int .i64 l, vxs]), .int .i64 rod, .int .i64 d]).toArray w (fun e w' => RetSl 81 2 (flat encIntA2 (setRodR u l xs rod d).xs) (setRodR u l xs rod d).xs.length (fun s => .tuple #[.agg [.int .i64 (setRodR u l xs rod d).u, .int .i64 (setRodR u l xs rod d).l, s].toArray, .bool (setRodR u l xs rod d).ok]) w e w') := by
  obtain ⟨axs, capxs, rfl, hcapxs, hmaxxs⟩ := hsxs.slice
  have hlenxs := hsxs.len_le
  refine calls_ct Try.func54 Try.ntmps54 rfl rfl ?_
  refine ct_seq ?_
  refine ct_reg ?_
  refine rl_box rfl rfl (fun N1 => ?_)
  refine rl_alloc ze26 rfl (fun N2 => ?_)
  refine rl_val gw_none (ov_assign rfl) rfl ?_
  refine rl_nil ?_
  refine at_then ?_
  refine ct_seq ?_
  refine ct_seq ?_
  refine ct_reg ?_
  first | refine rl_val gw_none (ov_loadall 1 ag26 rfl rfl rfl) rfl ?_ | refine rl_val gw_none (ov_loadp 1 ag26 rfl rfl (vs := [_, _, _]) rfl rfl) rfl ?_ | refine rl_val gw_none (ov_loada 1 ag26 rfl rfl rfl (by assumption)) rfl ?_
  refine rl_val gw_none (ov_move rfl) rfl ?_
  refine rl_callv gw_none goes123 rfl (fun w1 hp => l2Rod_c u l xs _ rod _ zu zl hGxs (hsxs.ext hp.ext0)) rfl ?_
  refine rl_val gw_none (ov_not rfl) rfl ?_
  refine rl_val gw_none (ov_move rfl) rfl ?_
  refine rl_split (t := 13) rfl (fun g1 => ?_) (fun g1 => ?_)
  ·
    have g1' := g1
    try simp only [Bool.not_eq_true', Bool.not_eq_false', Bool.not_not, decide_eq_true_eq, decide_eq_false_iff_not, beq_iff_eq, beq_eq_false_iff_ne, bne_iff_ne, bne_eq_false_iff_eq, Bool.and_eq_true, Bool.or_eq_true, Bool.and_eq_false_iff, Bool.or_eq_false_iff, inB] at g1'
    refine rl_skip (gw_not rfl rfl g1) rfl ?_
    refine rl_skip (gw_not rfl rfl g1) rfl ?_
    refine rl_skip (gw_not rfl rfl g1) rfl ?_
    refine rl_val gw_none (ov_pick_t rfl g1 rfl) rfl ?_
    refine rl_nil ?_
    refine at_then ?_
    refine ct_true rfl rfl ?_
    refine ct_seq ?_
    refine ct_reg ?_
    refine rl_val gw_none (ov_build rfl (bu26_)) rfl ?_
    refine rl_store [] sz26 rfl rfl rfl rfl rfl (Nat.le_of_ble_eq_true rfl) ?_
    refine rl_val gw_none (ov_assign rfl) rfl ?_
    refine rl_nil ?_
    refine at_then ?_
    refine ct_ret ?_
    refine at_then_ret ?_
    refine at_ret2 Try.results54 (ro_cell 0 ag26 rfl rfl rfl) (ro_tmp rfl) (fun w1 hp => ?_)
    unfold setRodR
    first | (rw [okR_no (by first | (simp_all; done) | (simp_all [inB]; done) | (simp_all [inB]; omega) | (cases hAt0 : (frameB u l xs) <;> cases hAt1 : (inB rod 0 ((xs.length : Int) - 1)) <;> cases hAt2 : (inB d 0 9) <;> simp_all; done))]; exact RetSl.nil hp.ext0) | (rw [okR_yes (by first | (simp_all; done) | (simp_all [inB]; done) | (simp_all [inB]; omega) | (cases hAt0 : (frameB u l xs) <;> cases hAt1 : (inB rod 0 ((xs.length : Int) - 1)) <;> cases hAt2 : (inB d 0 9) <;> simp_all; done))]; exact RetSl.ownL 999 hp rfl (Sl.same encIntA2_len no_proof (by simp)) (by simp))
  ·
    have g1' := g1
    try simp only [Bool.not_eq_true', Bool.not_eq_false', Bool.not_not, decide_eq_true_eq, decide_eq_false_iff_not, beq_iff_eq, beq_eq_false_iff_ne, bne_iff_ne, bne_eq_false_iff_eq, Bool.and_eq_true, Bool.or_eq_true, Bool.and_eq_false_iff, Bool.or_eq_false_iff, inB] at g1'
    refine rl_val (gw_some rfl rfl g1) (ov_move rfl) rfl ?_
    refine rl_callv (gw_some rfl rfl g1) goes116 rfl (fun w1 hp => l1In_c _ _ _ _) rfl ?_
    refine rl_val (gw_some rfl rfl g1) (ov_not rfl) rfl ?_
    refine rl_val gw_none (ov_pick_f rfl g1 rfl) rfl ?_
    refine rl_nil ?_
    refine at_then ?_
    first | refine ct_dec rfl (fun h1 => ?_) (fun h1 => ?_) | refine ct_ndec rfl (fun h1 => ?_) (fun h1 => ?_) | refine ct_eq rfl (fun h1 => ?_) (fun h1 => ?_) | refine ct_ne rfl (fun h1 => ?_) (fun h1 => ?_) | refine ct_not rfl (fun h1 => ?_) (fun h1 => ?_) | refine ct_cond rfl (fun h1 => ?_) (fun h1 => ?_)
    ·
      refine ct_seq ?_
      refine ct_reg ?_
      refine rl_val gw_none (ov_build rfl (bu26_)) rfl ?_
      refine rl_store [] sz26 rfl rfl rfl rfl rfl (Nat.le_of_ble_eq_true rfl) ?_
      refine rl_val gw_none (ov_assign rfl) rfl ?_
      refine rl_nil ?_
      refine at_then ?_
      refine ct_ret ?_
      refine at_then_ret ?_
      refine at_ret2 Try.results54 (ro_cell 0 ag26 rfl rfl rfl) (ro_tmp rfl) (fun w1 hp => ?_)
      unfold setRodR
      first | (rw [okR_no (by first | (simp_all; done) | (simp_all [inB]; done) | (simp_all [inB]; omega) | (cases hAt0 : (frameB u l xs) <;> cases hAt1 : (inB rod 0 ((xs.length : Int) - 1)) <;> cases hAt2 : (inB d 0 9) <;> simp_all; done))]; exact RetSl.nil hp.ext0) | (rw [okR_yes (by first | (simp_all; done) | (simp_all [inB]; done) | (simp_all [inB]; omega) | (cases hAt0 : (frameB u l xs) <;> cases hAt1 : (inB rod 0 ((xs.length : Int) - 1)) <;> cases hAt2 : (inB d 0 9) <;> simp_all; done))]; exact RetSl.ownL 999 hp rfl (Sl.same encIntA2_len no_proof (by simp)) (by simp))
    ·
      have hfr := g1
      simp only [Bool.not_eq_false', Bool.and_eq_true] at hfr
      have hf := hfr.1
      have h8 := (frameB_ul hf).2.2.2
      have hl1 := (frameB_ul hf).2.2.1
      have hrb := hfr.2
      simp only [inB, Bool.not_eq_false', Bool.and_eq_true, decide_eq_true_eq] at hrb
      have hdb := h1
      simp only [inB, Bool.not_eq_false', Bool.and_eq_true, decide_eq_true_eq] at hdb
      refine ct_skip ?_
      refine at_then ?_
      refine ct_seq ?_
      refine ct_reg ?_
      first | refine rl_val gw_none (ov_loadall 1 ag26 rfl rfl rfl) rfl ?_ | refine rl_val gw_none (ov_loadp 1 ag26 rfl rfl (vs := [_, _, _]) rfl rfl) rfl ?_ | refine rl_val gw_none (ov_loada 1 ag26 rfl rfl rfl (by assumption)) rfl ?_
      refine rl_callsl (ι := Nat × List Value) (fun i bo => .agg [.int .i64 u, .int .i64 l, sv bo (xs).length i.1].toArray) (fun i => flat encIntA2 (xs) ++ i.2) (fun i bo => Sl 2 bo (xs).length i.1 (flat encIntA2 (xs)) i.2) goes93 rfl (fun w1 hp => l2Own_c u l xs _ _ zu zl hGxs (hsxs.ext hp.ext0) h8) rfl (fun iow boow hsow => ?_)
      obtain ⟨bow, rfl⟩ := Sl.some hsow (by omega)
      refine rl_alloc ze26 rfl (fun N3 => ?_)
      refine rl_store [] sz26 rfl rfl rfl rfl rfl (Nat.le_of_ble_eq_true rfl) ?_
      refine rl_nil ?_
      refine at_then ?_
      refine ct_seq ?_
      refine ct_dr 6 (by kernel_rfl) (by kernel_rfl) ?_
      refine ql_val gw_none (ov_field fo26_2 rfl) rfl ?_
      first | refine ql_val gw_none (ov_load 0 sc22 rfl rfl rfl) rfl ?_ | refine ql_val gw_none (ov_load 0 sc22 rfl rfl (by assumption)) rfl ?_
      refine ql_val gw_none (ov_move rfl) rfl ?_
      refine ql_val gw_none (ov_move rfl) rfl ?_
      refine ql_callv gw_none goes124 rfl (fun w1 hp => l2Digit_c _ _ (by omega)) rfl ?_
      first | refine ql_val gw_none (ov_ix Try.underlying22 sz81 rfl rfl _ rfl (by omega)) rfl ?_ | refine ql_val gw_none (ov_ix Try.underlying22 sz81 rfl rfl (rod.toNat) (by omega) (by omega)) rfl ?_
      refine ql_nil ?_
      refine rl_store [_] sz81 rfl rfl rfl rfl rfl (by rw [List.length_append, flat_length encIntA2_len]; omega) ?_
      refine rl_mem (fun _ hq => hq.cong (congrArg (fun x => _ :: (_, _, x) :: _) (flatSetP encIntA2_len (rodFor d) _ (show rod.toNat < xs.length by omega)))) ?_
      refine rl_nil ?_
      refine at_then ?_
      refine ct_seq ?_
      refine ct_reg ?_
      first | refine rl_val gw_none (ov_loadall 0 ag26 rfl rfl rfl) rfl ?_ | refine rl_val gw_none (ov_loadp 0 ag26 rfl rfl (vs := [_, _, _]) rfl rfl) rfl ?_ | refine rl_val gw_none (ov_loada 0 ag26 rfl rfl rfl (by assumption)) rfl ?_
      refine rl_store [_, _] sz26 rfl rfl rfl rfl rfl (Nat.le_of_ble_eq_true rfl) ?_
      refine rl_val gw_none (ov_assign rfl) rfl ?_
      refine rl_nil ?_
      refine at_then ?_
      refine ct_ret ?_
      refine at_ret2 Try.results54 (ro_cell 2 ag26 rfl rfl rfl) (ro_tmp rfl) (fun w1 hp => ?_)
      unfold setRodR
      first | (rw [okR_no (by first | (simp_all; done) | (simp_all [inB]; done) | (simp_all [inB]; omega) | (cases hAt0 : (frameB u l xs) <;> cases hAt1 : (inB rod 0 ((xs.length : Int) - 1)) <;> cases hAt2 : (inB d 0 9) <;> simp_all; done))]; exact RetSl.nil hp.ext0) | (rw [okR_yes (by first | (simp_all; done) | (simp_all [inB]; done) | (simp_all [inB]; omega) | (cases hAt0 : (frameB u l xs) <;> cases hAt1 : (inB rod 0 ((xs.length : Int) - 1)) <;> cases hAt2 : (inB d 0 9) <;> simp_all; done))]; exact RetSl.ownL 1 hp rfl (Sl.same encIntA2_len hsow (by simp)) (by simp))

theorem iCleared_c (u : Int) (l : Int) (xs : List IntA2) (vxs : Value) (w : World) (zu : In64 u) (zl : In64 l) (hGxs : ∀ y ∈ xs, GIntA2 y) (hsxs : SR w 2 vxs xs.length (flat encIntA2 xs)) : Calls Try.prog 60 ([.agg (List.toArray (α := Value) [.int .i64 u, .int .i64 l, vxs])]).toArray w (fun e w' => RetSl 81 2 (flat encIntA2 (clearedR u l xs).xs) (clearedR u l xs).xs.length (fun s => .tuple #[.agg [.int .i64 (clearedR u l xs).u, .int .i64 (clearedR u l xs).l, s].toArray, .bool (clearedR u l xs).ok]) w e w') := by
  obtain ⟨axs, capxs, rfl, hcapxs, hmaxxs⟩ := hsxs.slice
  have hlenxs := hsxs.len_le
  refine calls_ct Try.func60 Try.ntmps60 rfl rfl ?_
  refine ct_seq ?_
  refine ct_reg ?_
  refine rl_box rfl rfl (fun N1 => ?_)
  refine rl_alloc ze26 rfl (fun N2 => ?_)
  refine rl_val gw_none (ov_assign rfl) rfl ?_
  refine rl_nil ?_
  refine at_then ?_
  refine ct_seq ?_
  refine ct_seq ?_
  refine ct_reg ?_
  first | refine rl_val gw_none (ov_loadall 1 ag26 rfl rfl rfl) rfl ?_ | refine rl_val gw_none (ov_loadp 1 ag26 rfl rfl (vs := [_, _, _]) rfl rfl) rfl ?_ | refine rl_val gw_none (ov_loada 1 ag26 rfl rfl rfl (by assumption)) rfl ?_
  refine rl_callv gw_none goes113 rfl (fun w1 hp => iIsFrame_c u l xs _ _ zu zl hGxs (hsxs.ext hp.ext0)) rfl ?_
  refine rl_val gw_none (ov_not rfl) rfl ?_
  refine rl_nil ?_
  refine at_then ?_
  first | refine ct_dec rfl (fun h1 => ?_) (fun h1 => ?_) | refine ct_ndec rfl (fun h1 => ?_) (fun h1 => ?_) | refine ct_eq rfl (fun h1 => ?_) (fun h1 => ?_) | refine ct_ne rfl (fun h1 => ?_) (fun h1 => ?_) | refine ct_not rfl (fun h1 => ?_) (fun h1 => ?_) | refine ct_cond rfl (fun h1 => ?_) (fun h1 => ?_)
  ·
    refine ct_seq ?_
    refine ct_reg ?_
    refine rl_val gw_none (ov_build rfl (bu26_)) rfl ?_
    refine rl_store [] sz26 rfl rfl rfl rfl rfl (Nat.le_of_ble_eq_true rfl) ?_
    refine rl_val gw_none (ov_assign rfl) rfl ?_
    refine rl_nil ?_
    refine at_then ?_
    refine ct_ret ?_
    refine at_then_ret ?_
    refine at_ret2 Try.results60 (ro_cell 0 ag26 rfl rfl rfl) (ro_tmp rfl) (fun w1 hp => ?_)
    unfold clearedR
    first | (rw [okR_no (by first | (simp_all; done) | (simp_all [inB]; done) | (simp_all [inB]; omega))]; exact RetSl.nil hp.ext0) | (rw [okR_yes (by first | (simp_all; done) | (simp_all [inB]; done) | (simp_all [inB]; omega))]; exact RetSl.ownL 999 hp rfl no_proof (showL_len _ _).symm)
  ·
    have hf : frameB u l xs = true := by simpa using h1
    have h8 := (frameB_ul hf).2.2.2
    have hl1 := (frameB_ul hf).2.2.1
    have hnb := numF_all hf
    refine ct_skip ?_
    refine at_then ?_
    refine ct_seq ?_
    refine ct_reg ?_
    first | refine rl_val gw_none (ov_loadall 1 ag26 rfl rfl rfl) rfl ?_ | refine rl_val gw_none (ov_loadp 1 ag26 rfl rfl (vs := [_, _, _]) rfl rfl) rfl ?_ | refine rl_val gw_none (ov_loada 1 ag26 rfl rfl rfl (by assumption)) rfl ?_
    refine rl_callsl (ι := Nat × List Value) (fun i bo => .agg [.int .i64 u, .int .i64 l, sv bo (xs).length i.1].toArray) (fun i => flat encIntA2 (showL (0) (xs).length) ++ i.2) (fun i bo => Sl 2 bo (xs).length i.1 (flat encIntA2 (showL (0) (xs).length)) i.2) goes115 rfl (fun w1 hp => showing_c u l xs 0 _ _ zu zl hGxs (hsxs.ext hp.ext0) h8 hl1 (by omega)) rfl (fun ish bosh hssh => ?_)
    refine rl_store [_] sz26 rfl rfl rfl rfl rfl (Nat.le_of_ble_eq_true rfl) ?_
    refine rl_val gw_none (ov_assign rfl) rfl ?_
    refine rl_nil ?_
    refine at_then ?_
    refine ct_ret ?_
    refine at_ret2 Try.results60 (ro_cell 1 ag26 rfl rfl rfl) (ro_tmp rfl) (fun w1 hp => ?_)
    unfold clearedR
    first | (rw [okR_no (by first | (simp_all; done) | (simp_all [inB]; done) | (simp_all [inB]; omega))]; exact RetSl.nil hp.ext0) | (rw [okR_yes (by first | (simp_all; done) | (simp_all [inB]; done) | (simp_all [inB]; omega))]; exact RetSl.ownL 0 hp rfl hssh (showL_len _ _).symm)

theorem sCleared_c (u : Int) (l : Int) (xs : List IntA2) (vxs : Value) (w : World) (zu : In64 u) (zl : In64 l) (hGxs : ∀ y ∈ xs, GIntA2 y) (hsxs : SR w 2 vxs xs.length (flat encIntA2 xs)) : Calls Try.prog 61 ([.agg (List.toArray (α := Value) [.int .i64 u, .int .i64 l, vxs])]).toArray w (fun e w' => RetSl 81 2 (flat encIntA2 (clearedR u l xs).xs) (clearedR u l xs).xs.length (fun s => .tuple #[.agg [.int .i64 (clearedR u l xs).u, .int .i64 (clearedR u l xs).l, s].toArray, .bool (clearedR u l xs).ok]) w e w') := by
  obtain ⟨axs, capxs, rfl, hcapxs, hmaxxs⟩ := hsxs.slice
  have hlenxs := hsxs.len_le
  refine calls_ct Try.func61 Try.ntmps61 rfl rfl ?_
  refine ct_seq ?_
  refine ct_reg ?_
  refine rl_box rfl rfl (fun N1 => ?_)
  refine rl_alloc ze26 rfl (fun N2 => ?_)
  refine rl_val gw_none (ov_assign rfl) rfl ?_
  refine rl_nil ?_
  refine at_then ?_
  refine ct_seq ?_
  refine ct_seq ?_
  refine ct_reg ?_
  first | refine rl_val gw_none (ov_loadall 1 ag26 rfl rfl rfl) rfl ?_ | refine rl_val gw_none (ov_loadp 1 ag26 rfl rfl (vs := [_, _, _]) rfl rfl) rfl ?_ | refine rl_val gw_none (ov_loada 1 ag26 rfl rfl rfl (by assumption)) rfl ?_
  refine rl_callv gw_none goes126 rfl (fun w1 hp => l2Good_c u l xs _ _ zu zl hGxs (hsxs.ext hp.ext0)) rfl ?_
  refine rl_val gw_none (ov_not rfl) rfl ?_
  refine rl_nil ?_
  refine at_then ?_
  first | refine ct_dec rfl (fun h1 => ?_) (fun h1 => ?_) | refine ct_ndec rfl (fun h1 => ?_) (fun h1 => ?_) | refine ct_eq rfl (fun h1 => ?_) (fun h1 => ?_) | refine ct_ne rfl (fun h1 => ?_) (fun h1 => ?_) | refine ct_not rfl (fun h1 => ?_) (fun h1 => ?_) | refine ct_cond rfl (fun h1 => ?_) (fun h1 => ?_)
  ·
    refine ct_seq ?_
    refine ct_reg ?_
    refine rl_val gw_none (ov_build rfl (bu26_)) rfl ?_
    refine rl_store [] sz26 rfl rfl rfl rfl rfl (Nat.le_of_ble_eq_true rfl) ?_
    refine rl_val gw_none (ov_assign rfl) rfl ?_
    refine rl_nil ?_
    refine at_then ?_
    refine ct_ret ?_
    refine at_then_ret ?_
    refine at_ret2 Try.results61 (ro_cell 0 ag26 rfl rfl rfl) (ro_tmp rfl) (fun w1 hp => ?_)
    unfold clearedR
    first | (rw [okR_no (by first | (simp_all; done) | (simp_all [inB]; done) | (simp_all [inB]; omega))]; exact RetSl.nil hp.ext0) | (rw [okR_yes (by first | (simp_all; done) | (simp_all [inB]; done) | (simp_all [inB]; omega))]; exact RetSl.ownL 999 hp rfl no_proof (showL_len _ _).symm)
  ·
    have hf : frameB u l xs = true := by simpa using h1
    have h8 := (frameB_ul hf).2.2.2
    have hl1 := (frameB_ul hf).2.2.1
    have hnb := numF_all hf
    refine ct_skip ?_
    refine at_then ?_
    refine ct_seq ?_
    refine ct_reg ?_
    refine rl_val gw_none (ov_field fo26_0 rfl) rfl ?_
    first | refine rl_val gw_none (ov_load 1 sc3 rfl rfl rfl) rfl ?_ | refine rl_val gw_none (ov_load 1 sc3 rfl rfl (by assumption)) rfl ?_
    refine rl_val gw_none (ov_field fo26_1 rfl) rfl ?_
    first | refine rl_val gw_none (ov_load 1 sc3 rfl rfl rfl) rfl ?_ | refine rl_val gw_none (ov_load 1 sc3 rfl rfl (by assumption)) rfl ?_
    refine rl_val gw_none (ov_field fo26_2 rfl) rfl ?_
    first | refine rl_val gw_none (ov_load 1 sc22 rfl rfl rfl) rfl ?_ | refine rl_val gw_none (ov_load 1 sc22 rfl rfl (by assumption)) rfl ?_
    refine rl_val gw_none (ov_len Try.underlying22 rfl) rfl ?_
    refine rl_callsl (ι := Nat × List Value) (fun i bo => .agg [.int .i64 u, .int .i64 l, sv bo (xs.length) i.1].toArray) (fun i => flat encIntA2 (showL (0) (xs.length)) ++ i.2) (fun i bo => Sl 2 bo (xs.length) i.1 (flat encIntA2 (showL (0) (xs.length))) i.2) goes106 rfl (fun w1 hp => l2For_c u l _ (0) (xs.length) _ rfl ⟨hl1, h8⟩ (by omega)) rfl (fun ish bosh hssh => ?_)
    refine rl_store [_] sz26 rfl rfl rfl rfl rfl (Nat.le_of_ble_eq_true rfl) ?_
    refine rl_val gw_none (ov_assign rfl) rfl ?_
    refine rl_nil ?_
    refine at_then ?_
    refine ct_ret ?_
    refine at_ret2 Try.results61 (ro_cell 1 ag26 rfl rfl rfl) (ro_tmp rfl) (fun w1 hp => ?_)
    unfold clearedR
    first | (rw [okR_no (by first | (simp_all; done) | (simp_all [inB]; done) | (simp_all [inB]; omega))]; exact RetSl.nil hp.ext0) | (rw [okR_yes (by first | (simp_all; done) | (simp_all [inB]; done) | (simp_all [inB]; omega))]; exact RetSl.ownL 0 hp rfl hssh (showL_len _ _).symm)

theorem iRodValue_c (u : Int) (l : Int) (xs : List IntA2) (i : Int) (vxs : Value) (w : World) (zu : In64 u) (zl : In64 l) (hGxs : ∀ y ∈ xs, GIntA2 y) (hsxs : SR w 2 vxs xs.length (flat encIntA2 xs)) (zi : In64 i) : Calls Try.prog 55 ([.agg (List.toArray (α := Value) [.int .i64 u, .int .i64 l, vxs]), .int .i64 i]).toArray w (fun e w' => e = .returned (.tuple #[.int .i64 (rvR u l xs i).1, .bool (rvR u l xs i).2]) ∧ Ext w w') := by
  obtain ⟨axs, capxs, rfl, hcapxs, hmaxxs⟩ := hsxs.slice
  have hlenxs := hsxs.len_le
  refine calls_ct Try.func55 Try.ntmps55 rfl rfl ?_
  refine ct_seq ?_
  refine ct_reg ?_
  refine rl_box rfl rfl (fun N1 => ?_)
  refine rl_val gw_none (ov_assign rfl) rfl ?_
  refine rl_val gw_none (ov_assign rfl) rfl ?_
  refine rl_nil ?_
  refine at_then ?_
  refine ct_seq ?_
  refine ct_seq ?_
  refine ct_reg ?_
  first | refine rl_val gw_none (ov_loadall 0 ag26 rfl rfl rfl) rfl ?_ | refine rl_val gw_none (ov_loadp 0 ag26 rfl rfl (vs := [_, _, _]) rfl rfl) rfl ?_ | refine rl_val gw_none (ov_loada 0 ag26 rfl rfl rfl (by assumption)) rfl ?_
  refine rl_callv gw_none goes113 rfl (fun w1 hp => iIsFrame_c u l xs _ _ zu zl hGxs (hsxs.ext hp.ext0)) rfl ?_
  refine rl_val gw_none (ov_not rfl) rfl ?_
  refine rl_val gw_none (ov_move rfl) rfl ?_
  refine rl_split (t := 9) rfl (fun g1 => ?_) (fun g1 => ?_)
  ·
    have g1' := g1
    try simp only [Bool.not_eq_true', Bool.not_eq_false', Bool.not_not, decide_eq_true_eq, decide_eq_false_iff_not, beq_iff_eq, beq_eq_false_iff_ne, bne_iff_ne, bne_eq_false_iff_eq, Bool.and_eq_true, Bool.or_eq_true, Bool.and_eq_false_iff, Bool.or_eq_false_iff, inB] at g1'
    refine rl_skip (gw_not rfl rfl g1) rfl ?_
    refine rl_skip (gw_not rfl rfl g1) rfl ?_
    refine rl_skip (gw_not rfl rfl g1) rfl ?_
    refine rl_skip (gw_not rfl rfl g1) rfl ?_
    refine rl_val gw_none (ov_pick_t rfl g1 rfl) rfl ?_
    refine rl_nil ?_
    refine at_then ?_
    refine ct_true rfl rfl ?_
    refine ct_seq ?_
    refine ct_reg ?_
    refine rl_val gw_none (ov_assign rfl) rfl ?_
    refine rl_val gw_none (ov_assign rfl) rfl ?_
    refine rl_nil ?_
    refine at_then ?_
    refine ct_ret ?_
    refine at_then_ret ?_
    refine at_ret2 Try.results55 (ro_tmp rfl) (ro_tmp rfl) (fun w1 hp => ?_)
    refine ⟨?_, hp.ext0⟩
    first | (rw [rvR_yes hfk hx]; done) | (rw [rvR_no (by simp_all)]; done)
  ·
    have hf : frameB u l xs = true := by simpa using g1
    have h8 := (frameB_ul hf).2.2.2
    have hl1 := (frameB_ul hf).2.2.1
    have hnb := numF_all hf
    first | refine rl_val (gw_some rfl rfl g1) (ov_loadall 0 ag26 rfl rfl rfl) rfl ?_ | refine rl_val (gw_some rfl rfl g1) (ov_loadp 0 ag26 rfl rfl (vs := [_, _, _]) rfl rfl) rfl ?_ | refine rl_val (gw_some rfl rfl g1) (ov_loada 0 ag26 rfl rfl rfl (by assumption)) rfl ?_
    refine rl_val (gw_some rfl rfl g1) (ov_move rfl) rfl ?_
    refine rl_callv (gw_some rfl rfl g1) goes121 rfl (fun w1 hp => hasRod_c u l xs _ _ _ zu zl hGxs (hsxs.ext hp.ext0)) rfl ?_
    refine rl_val (gw_some rfl rfl g1) (ov_not rfl) rfl ?_
    refine rl_val gw_none (ov_pick_f rfl g1 rfl) rfl ?_
    refine rl_nil ?_
    refine at_then ?_
    first | refine ct_dec rfl (fun h1 => ?_) (fun h1 => ?_) | refine ct_ndec rfl (fun h1 => ?_) (fun h1 => ?_) | refine ct_eq rfl (fun h1 => ?_) (fun h1 => ?_) | refine ct_ne rfl (fun h1 => ?_) (fun h1 => ?_) | refine ct_not rfl (fun h1 => ?_) (fun h1 => ?_) | refine ct_cond rfl (fun h1 => ?_) (fun h1 => ?_)
    ·
      refine ct_seq ?_
      refine ct_reg ?_
      refine rl_val gw_none (ov_assign rfl) rfl ?_
      refine rl_val gw_none (ov_assign rfl) rfl ?_
      refine rl_nil ?_
      refine at_then ?_
      refine ct_ret ?_
      refine at_then_ret ?_
      refine at_ret2 Try.results55 (ro_tmp rfl) (ro_tmp rfl) (fun w1 hp => ?_)
      refine ⟨?_, hp.ext0⟩
      first | (rw [rvR_yes hfk hx]; done) | (rw [rvR_no (by simp_all)]; done)
    ·
      have hrb := h1
      simp only [inB, Bool.not_eq_false', Bool.and_eq_true, decide_eq_true_eq] at hrb
      have hfk : (frameB u l xs && inB i 0 ((xs.length : Int) - 1)) = true := by rw [hf]; simpa using h1
      obtain ⟨k, rfl⟩ : ∃ k : Nat, i = k := ⟨i.toNat, by omega⟩
      have hk2 : k < xs.length := by omega
      obtain ⟨b, o, rfl, hel⟩ := hsxs.elem encIntA2_len (by omega) hk2
      have hx := getLt hk2
      generalize xs[k] = r at *
      have hcx := hel k r hx
      obtain ⟨c0, c1, _⟩ := hel k r hx
      have hrb2 := frameB_at hf hx
      refine ct_skip ?_
      refine at_then ?_
      refine ct_seq ?_
      refine ct_dr 16 (by kernel_rfl) (by kernel_rfl) ?_
      refine ql_val gw_none (ov_field fo26_2 rfl) rfl ?_
      first | refine ql_val gw_none (ov_load 0 sc22 rfl rfl rfl) rfl ?_ | refine ql_val gw_none (ov_load 0 sc22 rfl rfl (by assumption)) rfl ?_
      refine ql_val gw_none (ov_move rfl) rfl ?_
      first | refine ql_val gw_none (ov_ix Try.underlying22 sz81 rfl rfl _ rfl (by omega)) rfl ?_ | refine ql_val gw_none (ov_ix Try.underlying22 sz81 rfl rfl (0) (by omega) (by omega)) rfl ?_ | refine ql_val gw_none (ov_ix Try.underlying22 sz81 rfl rfl (1) (by omega) (by omega)) rfl ?_ | refine ql_val gw_none (ov_ix Try.underlying22 sz81 rfl rfl (k) (by omega) (by omega)) rfl ?_
      first | refine ql_val gw_none (ov_ixa Try.underlying81 sz3 rfl rfl _ rfl (by omega)) rfl ?_ | refine ql_val gw_none (ov_ixa Try.underlying81 sz3 rfl rfl (0) (by omega) (by omega)) rfl ?_ | refine ql_val gw_none (ov_ixa Try.underlying81 sz3 rfl rfl (1) (by omega) (by omega)) rfl ?_ | refine ql_val gw_none (ov_ixa Try.underlying81 sz3 rfl rfl (k) (by omega) (by omega)) rfl ?_
      first | refine ql_val gw_none (ov_load 0 sc3 rfl rfl rfl) rfl ?_ | refine ql_val gw_none (ov_load 1 sc3 rfl rfl rfl) rfl ?_ | refine ql_val gw_none (ov_load 2 sc3 rfl rfl rfl) rfl ?_ | refine ql_val gw_none (ov_load 3 sc3 rfl rfl rfl) rfl ?_ | refine ql_val gw_none (ov_loadw sc3 rfl (by assumption)) rfl ?_ | refine ql_val gw_none (ov_load 0 sc3 rfl rfl (by assumption)) rfl ?_ | refine ql_val gw_none (ov_load 1 sc3 rfl rfl (by assumption)) rfl ?_ | refine ql_val gw_none (ov_load 2 sc3 rfl rfl (by assumption)) rfl ?_ | refine ql_val gw_none (ov_load 3 sc3 rfl rfl (by assumption)) rfl ?_
      refine ql_val gw_none (ov_mul rfl rfl (by omega)) rfl ?_
      refine ql_val gw_none (ov_field fo26_2 rfl) rfl ?_
      first | refine ql_val gw_none (ov_load 0 sc22 rfl rfl rfl) rfl ?_ | refine ql_val gw_none (ov_load 0 sc22 rfl rfl (by assumption)) rfl ?_
      refine ql_val gw_none (ov_move rfl) rfl ?_
      first | refine ql_val gw_none (ov_ix Try.underlying22 sz81 rfl rfl _ rfl (by omega)) rfl ?_ | refine ql_val gw_none (ov_ix Try.underlying22 sz81 rfl rfl (0) (by omega) (by omega)) rfl ?_ | refine ql_val gw_none (ov_ix Try.underlying22 sz81 rfl rfl (1) (by omega) (by omega)) rfl ?_ | refine ql_val gw_none (ov_ix Try.underlying22 sz81 rfl rfl (k) (by omega) (by omega)) rfl ?_
      first | refine ql_val gw_none (ov_ixa Try.underlying81 sz3 rfl rfl _ rfl (by omega)) rfl ?_ | refine ql_val gw_none (ov_ixa Try.underlying81 sz3 rfl rfl (0) (by omega) (by omega)) rfl ?_ | refine ql_val gw_none (ov_ixa Try.underlying81 sz3 rfl rfl (1) (by omega) (by omega)) rfl ?_ | refine ql_val gw_none (ov_ixa Try.underlying81 sz3 rfl rfl (k) (by omega) (by omega)) rfl ?_
      first | refine ql_val gw_none (ov_load 0 sc3 rfl rfl rfl) rfl ?_ | refine ql_val gw_none (ov_load 1 sc3 rfl rfl rfl) rfl ?_ | refine ql_val gw_none (ov_load 2 sc3 rfl rfl rfl) rfl ?_ | refine ql_val gw_none (ov_load 3 sc3 rfl rfl rfl) rfl ?_ | refine ql_val gw_none (ov_loadw sc3 rfl (by assumption)) rfl ?_ | refine ql_val gw_none (ov_load 0 sc3 rfl rfl (by assumption)) rfl ?_ | refine ql_val gw_none (ov_load 1 sc3 rfl rfl (by assumption)) rfl ?_ | refine ql_val gw_none (ov_load 2 sc3 rfl rfl (by assumption)) rfl ?_ | refine ql_val gw_none (ov_load 3 sc3 rfl rfl (by assumption)) rfl ?_
      refine ql_val gw_none (ov_add rfl rfl (by omega)) rfl ?_
      refine ql_val gw_none (ov_assign rfl) rfl ?_
      refine ql_val gw_none (ov_assign rfl) rfl ?_
      refine ql_nil ?_
      refine rl_nil ?_
      refine at_then ?_
      refine ct_ret ?_
      refine at_ret2 Try.results55 (ro_tmp rfl) (ro_tmp rfl) (fun w1 hp => ?_)
      refine ⟨?_, hp.ext0⟩
      first | (rw [rvR_yes hfk hx]; done) | (rw [rvR_no (by simp_all)]; done)

theorem sRodValue_c (u : Int) (l : Int) (xs : List IntA2) (i : Int) (vxs : Value) (w : World) (zu : In64 u) (zl : In64 l) (hGxs : ∀ y ∈ xs, GIntA2 y) (hsxs : SR w 2 vxs xs.length (flat encIntA2 xs)) (zi : In64 i) : Calls Try.prog 57 ([.agg (List.toArray (α := Value) [.int .i64 u, .int .i64 l, vxs]), .int .i64 i]).toArray w (fun e w' => e = .returned (.tuple #[.int .i64 (rvR u l xs i).1, .bool (rvR u l xs i).2]) ∧ Ext w w') := by
  obtain ⟨axs, capxs, rfl, hcapxs, hmaxxs⟩ := hsxs.slice
  have hlenxs := hsxs.len_le
  refine calls_ct Try.func57 Try.ntmps57 rfl rfl ?_
  refine ct_seq ?_
  refine ct_reg ?_
  refine rl_box rfl rfl (fun N1 => ?_)
  refine rl_val gw_none (ov_assign rfl) rfl ?_
  refine rl_val gw_none (ov_assign rfl) rfl ?_
  refine rl_nil ?_
  refine at_then ?_
  refine ct_seq ?_
  refine ct_seq ?_
  refine ct_reg ?_
  first | refine rl_val gw_none (ov_loadall 0 ag26 rfl rfl rfl) rfl ?_ | refine rl_val gw_none (ov_loadp 0 ag26 rfl rfl (vs := [_, _, _]) rfl rfl) rfl ?_ | refine rl_val gw_none (ov_loada 0 ag26 rfl rfl rfl (by assumption)) rfl ?_
  refine rl_val gw_none (ov_move rfl) rfl ?_
  refine rl_callv gw_none goes123 rfl (fun w1 hp => l2Rod_c u l xs _ _ _ zu zl hGxs (hsxs.ext hp.ext0)) rfl ?_
  refine rl_val gw_none (ov_not rfl) rfl ?_
  refine rl_nil ?_
  refine at_then ?_
  first | refine ct_dec rfl (fun h1 => ?_) (fun h1 => ?_) | refine ct_ndec rfl (fun h1 => ?_) (fun h1 => ?_) | refine ct_eq rfl (fun h1 => ?_) (fun h1 => ?_) | refine ct_ne rfl (fun h1 => ?_) (fun h1 => ?_) | refine ct_not rfl (fun h1 => ?_) (fun h1 => ?_) | refine ct_cond rfl (fun h1 => ?_) (fun h1 => ?_)
  ·
    refine ct_seq ?_
    refine ct_reg ?_
    refine rl_val gw_none (ov_assign rfl) rfl ?_
    refine rl_val gw_none (ov_assign rfl) rfl ?_
    refine rl_nil ?_
    refine at_then ?_
    refine ct_ret ?_
    refine at_then_ret ?_
    refine at_ret2 Try.results57 (ro_tmp rfl) (ro_tmp rfl) (fun w1 hp => ?_)
    refine ⟨?_, hp.ext0⟩
    first | (rw [rvR_yes hfk hx]; done) | (rw [rvR_no (by simp_all)]; done)
  ·
    have hfk : (frameB u l xs && inB i 0 ((xs.length : Int) - 1)) = true := by simpa using h1
    have hfr := hfk
    simp only [Bool.and_eq_true] at hfr
    have hf := hfr.1
    have hrb := hfr.2
    simp only [inB, Bool.and_eq_true, decide_eq_true_eq] at hrb
    obtain ⟨k, rfl⟩ : ∃ k : Nat, i = k := ⟨i.toNat, by omega⟩
    have hk2 : k < xs.length := by omega
    obtain ⟨b, o, rfl, hel⟩ := hsxs.elem encIntA2_len (by omega) hk2
    have hx := getLt hk2
    generalize xs[k] = r at *
    have hcx := hel k r hx
    obtain ⟨c0, c1, _⟩ := hel k r hx
    have hrb2 := frameB_at hf hx
    refine ct_skip ?_
    refine at_then ?_
    refine ct_seq ?_
    refine ct_reg ?_
    refine rl_val gw_none (ov_field fo26_2 rfl) rfl ?_
    first | refine rl_val gw_none (ov_load 0 sc22 rfl rfl rfl) rfl ?_ | refine rl_val gw_none (ov_load 0 sc22 rfl rfl (by assumption)) rfl ?_
    refine rl_val gw_none (ov_move rfl) rfl ?_
    first | refine rl_val gw_none (ov_ix Try.underlying22 sz81 rfl rfl _ rfl (by omega)) rfl ?_ | refine rl_val gw_none (ov_ix Try.underlying22 sz81 rfl rfl (0) (by omega) (by omega)) rfl ?_ | refine rl_val gw_none (ov_ix Try.underlying22 sz81 rfl rfl (1) (by omega) (by omega)) rfl ?_ | refine rl_val gw_none (ov_ix Try.underlying22 sz81 rfl rfl (k) (by omega) (by omega)) rfl ?_
    first | refine rl_val gw_none (ov_loadaw ag81 rfl rfl (by assumption)) rfl ?_ | refine rl_val gw_none (ov_loadall 0 ag81 rfl rfl rfl) rfl ?_ | refine rl_val gw_none (ov_loadall 1 ag81 rfl rfl rfl) rfl ?_ | refine rl_val gw_none (ov_loadall 2 ag81 rfl rfl rfl) rfl ?_ | refine rl_val gw_none (ov_loadall 3 ag81 rfl rfl rfl) rfl ?_
    refine rl_callv gw_none goes84 rfl (fun w1 hp => l2Value_c r _ hrb2) rfl ?_
    refine rl_val gw_none (ov_assign rfl) rfl ?_
    refine rl_val gw_none (ov_assign rfl) rfl ?_
    refine rl_nil ?_
    refine at_then ?_
    refine ct_ret ?_
    refine at_ret2 Try.results57 (ro_tmp rfl) (ro_tmp rfl) (fun w1 hp => ?_)
    refine ⟨?_, hp.ext0⟩
    first | (rw [rvR_yes hfk hx]; done) | (rw [rvR_no (by simp_all)]; done)

theorem iNumberOn_c (u : Int) (l : Int) (xs : List IntA2) (vxs : Value) (w : World) (zu : In64 u) (zl : In64 l) (hGxs : ∀ y ∈ xs, GIntA2 y) (hsxs : SR w 2 vxs xs.length (flat encIntA2 xs)) : Calls Try.prog 51 ([.agg (List.toArray (α := Value) [.int .i64 u, .int .i64 l, vxs])]).toArray w (fun e w' => e = .returned (.tuple #[.int .i64 (numR u l xs).1, .bool (numR u l xs).2]) ∧ Ext w w') := by
  obtain ⟨axs, capxs, rfl, hcapxs, hmaxxs⟩ := hsxs.slice
  have hlenxs := hsxs.len_le
  refine calls_ct Try.func51 Try.ntmps51 rfl rfl ?_
  refine ct_seq ?_
  refine ct_reg ?_
  refine rl_box rfl rfl (fun N1 => ?_)
  refine rl_val gw_none (ov_assign rfl) rfl ?_
  refine rl_val gw_none (ov_assign rfl) rfl ?_
  refine rl_nil ?_
  refine at_then ?_
  refine ct_seq ?_
  refine ct_seq ?_
  refine ct_reg ?_
  first | refine rl_val gw_none (ov_loadall 0 ag26 rfl rfl rfl) rfl ?_ | refine rl_val gw_none (ov_loadp 0 ag26 rfl rfl (vs := [_, _, _]) rfl rfl) rfl ?_ | refine rl_val gw_none (ov_loada 0 ag26 rfl rfl rfl (by assumption)) rfl ?_
  refine rl_callv gw_none goes113 rfl (fun w1 hp => iIsFrame_c u l xs _ _ zu zl hGxs (hsxs.ext hp.ext0)) rfl ?_
  refine rl_val gw_none (ov_not rfl) rfl ?_
  refine rl_nil ?_
  refine at_then ?_
  first | refine ct_dec rfl (fun h1 => ?_) (fun h1 => ?_) | refine ct_ndec rfl (fun h1 => ?_) (fun h1 => ?_) | refine ct_eq rfl (fun h1 => ?_) (fun h1 => ?_) | refine ct_ne rfl (fun h1 => ?_) (fun h1 => ?_) | refine ct_not rfl (fun h1 => ?_) (fun h1 => ?_) | refine ct_cond rfl (fun h1 => ?_) (fun h1 => ?_)
  ·
    refine ct_seq ?_
    refine ct_reg ?_
    refine rl_val gw_none (ov_assign rfl) rfl ?_
    refine rl_val gw_none (ov_assign rfl) rfl ?_
    refine rl_nil ?_
    refine at_then ?_
    refine ct_ret ?_
    refine at_then_ret ?_
    refine at_ret2 Try.results51 (ro_tmp rfl) (ro_tmp rfl) (fun w1 hp => ?_)
    refine ⟨?_, hp.ext0⟩
    first | (rw [numR_yes hf]; done) | (rw [numR_no (by simpa using h1)]; done)
  ·
    have hf : frameB u l xs = true := by simpa using h1
    have h8 := (frameB_ul hf).2.2.2
    have hl1 := (frameB_ul hf).2.2.1
    have hnb := numF_all hf
    refine ct_skip ?_
    refine at_then ?_
    refine ct_seq ?_
    refine ct_reg ?_
    first | refine rl_val gw_none (ov_loadall 0 ag26 rfl rfl rfl) rfl ?_ | refine rl_val gw_none (ov_loadp 0 ag26 rfl rfl (vs := [_, _, _]) rfl rfl) rfl ?_ | refine rl_val gw_none (ov_loada 0 ag26 rfl rfl rfl (by assumption)) rfl ?_
    refine rl_callv gw_none goes88 rfl (fun w1 hp => number_c u l xs _ _ zu zl hGxs (hsxs.ext hp.ext0) hf) rfl ?_
    refine rl_val gw_none (ov_assign rfl) rfl ?_
    refine rl_val gw_none (ov_assign rfl) rfl ?_
    refine rl_nil ?_
    refine at_then ?_
    refine ct_ret ?_
    refine at_ret2 Try.results51 (ro_tmp rfl) (ro_tmp rfl) (fun w1 hp => ?_)
    refine ⟨?_, hp.ext0⟩
    first | (rw [numR_yes hf]; done) | (rw [numR_no (by simpa using h1)]; done)

theorem sNumberOn_c (u : Int) (l : Int) (xs : List IntA2) (vxs : Value) (w : World) (zu : In64 u) (zl : In64 l) (hGxs : ∀ y ∈ xs, GIntA2 y) (hsxs : SR w 2 vxs xs.length (flat encIntA2 xs)) : Calls Try.prog 59 ([.agg (List.toArray (α := Value) [.int .i64 u, .int .i64 l, vxs])]).toArray w (fun e w' => e = .returned (.tuple #[.int .i64 (numR u l xs).1, .bool (numR u l xs).2]) ∧ Ext w w') := by
  obtain ⟨axs, capxs, rfl, hcapxs, hmaxxs⟩ := hsxs.slice
  have hlenxs := hsxs.len_le
  refine calls_ct Try.func59 Try.ntmps59 rfl rfl ?_
  refine ct_seq ?_
  refine ct_reg ?_
  refine rl_box rfl rfl (fun N1 => ?_)
  refine rl_val gw_none (ov_assign rfl) rfl ?_
  refine rl_val gw_none (ov_assign rfl) rfl ?_
  refine rl_nil ?_
  refine at_then ?_
  refine ct_seq ?_
  refine ct_seq ?_
  refine ct_reg ?_
  first | refine rl_val gw_none (ov_loadall 0 ag26 rfl rfl rfl) rfl ?_ | refine rl_val gw_none (ov_loadp 0 ag26 rfl rfl (vs := [_, _, _]) rfl rfl) rfl ?_ | refine rl_val gw_none (ov_loada 0 ag26 rfl rfl rfl (by assumption)) rfl ?_
  refine rl_callv gw_none goes126 rfl (fun w1 hp => l2Good_c u l xs _ _ zu zl hGxs (hsxs.ext hp.ext0)) rfl ?_
  refine rl_val gw_none (ov_not rfl) rfl ?_
  refine rl_nil ?_
  refine at_then ?_
  first | refine ct_dec rfl (fun h1 => ?_) (fun h1 => ?_) | refine ct_ndec rfl (fun h1 => ?_) (fun h1 => ?_) | refine ct_eq rfl (fun h1 => ?_) (fun h1 => ?_) | refine ct_ne rfl (fun h1 => ?_) (fun h1 => ?_) | refine ct_not rfl (fun h1 => ?_) (fun h1 => ?_) | refine ct_cond rfl (fun h1 => ?_) (fun h1 => ?_)
  ·
    refine ct_seq ?_
    refine ct_reg ?_
    refine rl_val gw_none (ov_assign rfl) rfl ?_
    refine rl_val gw_none (ov_assign rfl) rfl ?_
    refine rl_nil ?_
    refine at_then ?_
    refine ct_ret ?_
    refine at_then_ret ?_
    refine at_ret2 Try.results59 (ro_tmp rfl) (ro_tmp rfl) (fun w1 hp => ?_)
    refine ⟨?_, hp.ext0⟩
    first | (rw [numR_yes hf]; done) | (rw [numR_no (by simpa using h1)]; done)
  ·
    have hf : frameB u l xs = true := by simpa using h1
    have h8 := (frameB_ul hf).2.2.2
    have hl1 := (frameB_ul hf).2.2.1
    have hnb := numF_all hf
    refine ct_skip ?_
    refine at_then ?_
    refine ct_seq ?_
    refine ct_reg ?_
    first | refine rl_val gw_none (ov_loadall 0 ag26 rfl rfl rfl) rfl ?_ | refine rl_val gw_none (ov_loadp 0 ag26 rfl rfl (vs := [_, _, _]) rfl rfl) rfl ?_ | refine rl_val gw_none (ov_loada 0 ag26 rfl rfl rfl (by assumption)) rfl ?_
    refine rl_callv gw_none goes127 rfl (fun w1 hp => l2Number_c u l xs _ _ zu zl hGxs (hsxs.ext hp.ext0) hf) rfl ?_
    refine rl_val gw_none (ov_assign rfl) rfl ?_
    refine rl_val gw_none (ov_assign rfl) rfl ?_
    refine rl_nil ?_
    refine at_then ?_
    refine ct_ret ?_
    refine at_ret2 Try.results59 (ro_tmp rfl) (ro_tmp rfl) (fun w1 hp => ?_)
    refine ⟨?_, hp.ext0⟩
    first | (rw [numR_yes hf]; done) | (rw [numR_no (by simpa using h1)]; done)
end Go.Proofs.Ytnnhkpecgchgiaa
