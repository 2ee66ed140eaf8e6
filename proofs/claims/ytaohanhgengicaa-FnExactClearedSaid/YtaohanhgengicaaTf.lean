import Derived.Test.YtaohanhgengicaaTd
import Derived.KernelRfl
set_option linter.unusedVariables false
set_option linter.unusedSimpArgs false
namespace Go.Proofs.Ytaohanhgengicaa
open Go Go.RowKit K
theorem iSetRod_c (u : Int) (l : Int) (xs : List IntA2) (rod : Int) (d : Int) (vxs : Value) (w : World) (zu : In64 u) (zl : In64 l) (hGxs : ∀ y ∈ xs, GIntA2 y) (hsxs : SR w 2 vxs xs.length (flat encIntA2 xs)) (zrod : In64 rod) (zd : In64 d) : Calls Try.prog 23 ([.agg (List.toArray (α := Value) [.int .i64 u, .int .i64 l, vxs]), .int .i64 rod, .int .i64 d]).toArray w (fun e w' => RetSl 75 2 (flat encIntA2 (setRodR u l xs rod d).xs) (setRodR u l xs rod d).xs.length (fun s => .tuple #[.agg [.int .i64 (setRodR u l xs rod d).u, .int .i64 (setRodR u l xs rod d).l, s].toArray, .bool (setRodR u l xs rod d).ok]) w e w') := by
  obtain ⟨axs, capxs, rfl, hcapxs, hmaxxs⟩ := hsxs.slice
  have hlenxs := hsxs.len_le
  refine calls_ct Try.func23 Try.ntmps23 rfl rfl ?_
  refine ct_seq ?_
  refine ct_reg ?_
  refine rl_box rfl rfl (fun N1 => ?_)
  refine rl_alloc ze24 rfl (fun N2 => ?_)
  refine rl_val gw_none (ov_assign rfl) rfl ?_
  refine rl_nil ?_
  refine at_then ?_
  refine ct_seq ?_
  refine ct_seq ?_
  refine ct_reg ?_
  first | refine rl_val gw_none (ov_loadall 1 ag24 rfl rfl rfl) rfl ?_ | refine rl_val gw_none (ov_loada 1 ag24 rfl rfl rfl (by assumption)) rfl ?_
  refine rl_callv gw_none goes56 rfl (fun w1 hp => iIsFrame_c u l xs _ _ zu zl hGxs (hsxs.ext hp.ext0)) rfl ?_
  refine rl_val gw_none (ov_not rfl) rfl ?_
  refine rl_val gw_none (ov_move rfl) rfl ?_
  refine rl_split (t := 12) rfl (fun g1 => ?_) (fun g1 => ?_)
  ·
    have g1' := g1
    try simp only [Bool.not_eq_true', Bool.not_eq_false', Bool.not_not, decide_eq_true_eq, decide_eq_false_iff_not, beq_iff_eq, beq_eq_false_iff_ne, bne_iff_ne, bne_eq_false_iff_eq, Bool.and_eq_true, Bool.or_eq_true, Bool.and_eq_false_iff, Bool.or_eq_false_iff, inB] at g1'
    refine rl_skip (gw_not rfl rfl g1) rfl ?_
    refine rl_skip (gw_not rfl rfl g1) rfl ?_
    refine rl_skip (gw_not rfl rfl g1) rfl ?_
    refine rl_skip (gw_not rfl rfl g1) rfl ?_
    refine rl_val gw_none (ov_pick_t rfl g1 rfl) rfl ?_
    refine rl_val gw_none (ov_move rfl) rfl ?_
    refine rl_skip (gw_not rfl rfl rfl) rfl ?_
    refine rl_skip (gw_not rfl rfl rfl) rfl ?_
    refine rl_skip (gw_not rfl rfl rfl) rfl ?_
    refine rl_val gw_none (ov_pick_t rfl rfl rfl) rfl ?_
    refine rl_nil ?_
    refine at_then ?_
    refine ct_true rfl rfl ?_
    refine ct_seq ?_
    refine ct_reg ?_
    refine rl_val gw_none (ov_build rfl (bu24_)) rfl ?_
    refine rl_store [] sz24 rfl rfl rfl rfl rfl (Nat.le_of_ble_eq_true rfl) ?_
    refine rl_val gw_none (ov_assign rfl) rfl ?_
    refine rl_nil ?_
    refine at_then ?_
    refine ct_ret ?_
    refine at_then_ret ?_
    refine at_ret2 Try.results23 (ro_cell 0 ag24 rfl rfl rfl) (ro_tmp rfl) (fun w1 hp => ?_)
    unfold setRodR
    first | (rw [okR_no (by first | (simp_all; done) | (simp_all [inB]; done) | (simp_all [inB]; omega) | (cases hAt0 : (frameB u l xs) <;> cases hAt1 : (inB rod 0 ((xs.length : Int) - 1)) <;> cases hAt2 : (inB d 0 9) <;> simp_all; done))]; exact RetSl.nil hp.ext0) | (rw [okR_yes (by first | (simp_all; done) | (simp_all [inB]; done) | (simp_all [inB]; omega) | (cases hAt0 : (frameB u l xs) <;> cases hAt1 : (inB rod 0 ((xs.length : Int) - 1)) <;> cases hAt2 : (inB d 0 9) <;> simp_all; done))]; exact RetSl.ownL 999 hp rfl (Sl.same encIntA2_len no_proof (by simp)) (by simp))
  ·
    have hf : frameB u l xs = true := by simpa using g1
    have h8 := (frameB_ul hf).2.2.2
    have hl1 := (frameB_ul hf).2.2.1
    have hnb := numF_all hf
    first | refine rl_val (gw_some rfl rfl g1) (ov_loadall 1 ag24 rfl rfl rfl) rfl ?_ | refine rl_val (gw_some rfl rfl g1) (ov_loada 1 ag24 rfl rfl rfl (by assumption)) rfl ?_
    refine rl_val (gw_some rfl rfl g1) (ov_move rfl) rfl ?_
    refine rl_callv (gw_some rfl rfl g1) goes67 rfl (fun w1 hp => hasRod_c u l xs _ rod _ zu zl hGxs (hsxs.ext hp.ext0)) rfl ?_
    refine rl_val (gw_some rfl rfl g1) (ov_not rfl) rfl ?_
    refine rl_val gw_none (ov_pick_f rfl g1 rfl) rfl ?_
    refine rl_val gw_none (ov_move rfl) rfl ?_
    refine rl_split (t := 18) rfl (fun g2 => ?_) (fun g2 => ?_)
    ·
      have g2' := g2
      try simp only [Bool.not_eq_true', Bool.not_eq_false', Bool.not_not, decide_eq_true_eq, decide_eq_false_iff_not, beq_iff_eq, beq_eq_false_iff_ne, bne_iff_ne, bne_eq_false_iff_eq, Bool.and_eq_true, Bool.or_eq_true, Bool.and_eq_false_iff, Bool.or_eq_false_iff, inB] at g2'
      refine rl_skip (gw_not rfl rfl g2) rfl ?_
      refine rl_skip (gw_not rfl rfl g2) rfl ?_
      refine rl_skip (gw_not rfl rfl g2) rfl ?_
      refine rl_val gw_none (ov_pick_t rfl g2 rfl) rfl ?_
      refine rl_nil ?_
      refine at_then ?_
      refine ct_true rfl rfl ?_
      refine ct_seq ?_
      refine ct_reg ?_
      refine rl_val gw_none (ov_build rfl (bu24_)) rfl ?_
      refine rl_store [] sz24 rfl rfl rfl rfl rfl (Nat.le_of_ble_eq_true rfl) ?_
      refine rl_val gw_none (ov_assign rfl) rfl ?_
      refine rl_nil ?_
      refine at_then ?_
      refine ct_ret ?_
      refine at_then_ret ?_
      refine at_ret2 Try.results23 (ro_cell 0 ag24 rfl rfl rfl) (ro_tmp rfl) (fun w1 hp => ?_)
      unfold setRodR
      first | (rw [okR_no (by first | (simp_all; done) | (simp_all [inB]; done) | (simp_all [inB]; omega) | (cases hAt0 : (frameB u l xs) <;> cases hAt1 : (inB rod 0 ((xs.length : Int) - 1)) <;> cases hAt2 : (inB d 0 9) <;> simp_all; done))]; exact RetSl.nil hp.ext0) | (rw [okR_yes (by first | (simp_all; done) | (simp_all [inB]; done) | (simp_all [inB]; omega) | (cases hAt0 : (frameB u l xs) <;> cases hAt1 : (inB rod 0 ((xs.length : Int) - 1)) <;> cases hAt2 : (inB d 0 9) <;> simp_all; done))]; exact RetSl.ownL 999 hp rfl (Sl.same encIntA2_len no_proof (by simp)) (by simp))
    ·
      have g2' := g2
      try simp only [Bool.not_eq_true', Bool.not_eq_false', Bool.not_not, decide_eq_true_eq, decide_eq_false_iff_not, beq_iff_eq, beq_eq_false_iff_ne, bne_iff_ne, bne_eq_false_iff_eq, Bool.and_eq_true, Bool.or_eq_true, Bool.and_eq_false_iff, Bool.or_eq_false_iff, inB] at g2'
      refine rl_val (gw_some rfl rfl g2) (ov_move rfl) rfl ?_
      refine rl_callv (gw_some rfl rfl g2) goes55 rfl (fun w1 hp => within_c _ _ _ _) rfl ?_
      refine rl_val (gw_some rfl rfl g2) (ov_not rfl) rfl ?_
      refine rl_val gw_none (ov_pick_f rfl g2 rfl) rfl ?_
      refine rl_nil ?_
      refine at_then ?_
      first | refine ct_dec rfl (fun h1 => ?_) (fun h1 => ?_) | refine ct_ndec rfl (fun h1 => ?_) (fun h1 => ?_) | refine ct_eq rfl (fun h1 => ?_) (fun h1 => ?_) | refine ct_ne rfl (fun h1 => ?_) (fun h1 => ?_) | refine ct_not rfl (fun h1 => ?_) (fun h1 => ?_) | refine ct_cond rfl (fun h1 => ?_) (fun h1 => ?_)
      ·
        refine ct_seq ?_
        refine ct_reg ?_
        refine rl_val gw_none (ov_build rfl (bu24_)) rfl ?_
        refine rl_store [] sz24 rfl rfl rfl rfl rfl (Nat.le_of_ble_eq_true rfl) ?_
        refine rl_val gw_none (ov_assign rfl) rfl ?_
        refine rl_nil ?_
        refine at_then ?_
        refine ct_ret ?_
        refine at_then_ret ?_
        refine at_ret2 Try.results23 (ro_cell 0 ag24 rfl rfl rfl) (ro_tmp rfl) (fun w1 hp => ?_)
        unfold setRodR
        first | (rw [okR_no (by first | (simp_all; done) | (simp_all [inB]; done) | (simp_all [inB]; omega) | (cases hAt0 : (frameB u l xs) <;> cases hAt1 : (inB rod 0 ((xs.length : Int) - 1)) <;> cases hAt2 : (inB d 0 9) <;> simp_all; done))]; exact RetSl.nil hp.ext0) | (rw [okR_yes (by first | (simp_all; done) | (simp_all [inB]; done) | (simp_all [inB]; omega) | (cases hAt0 : (frameB u l xs) <;> cases hAt1 : (inB rod 0 ((xs.length : Int) - 1)) <;> cases hAt2 : (inB d 0 9) <;> simp_all; done))]; exact RetSl.ownL 999 hp rfl (Sl.same encIntA2_len no_proof (by simp)) (by simp))
      ·
        have hrb := g2
        simp only [inB, Bool.not_eq_false', Bool.and_eq_true, decide_eq_true_eq] at hrb
        have hdb := h1
        simp only [inB, Bool.not_eq_false', Bool.and_eq_true, decide_eq_true_eq] at hdb
        refine ct_skip ?_
        refine at_then ?_
        refine ct_seq ?_
        refine ct_reg ?_
        first | refine rl_val gw_none (ov_loadall 1 ag24 rfl rfl rfl) rfl ?_ | refine rl_val gw_none (ov_loada 1 ag24 rfl rfl rfl (by assumption)) rfl ?_
        refine rl_callsl (ι := Nat × List Value) (fun i bo => .agg [.int .i64 u, .int .i64 l, sv bo (xs).length i.1].toArray) (fun i => flat encIntA2 (xs) ++ i.2) (fun i bo => Sl 2 bo (xs).length i.1 (flat encIntA2 (xs)) i.2) goes68 rfl (fun w1 hp => own_c u l xs _ _ zu zl hGxs (hsxs.ext hp.ext0) h8) rfl (fun iow boow hsow => ?_)
        obtain ⟨bow, rfl⟩ := Sl.some hsow (by omega)
        refine rl_alloc ze24 rfl (fun N3 => ?_)
        refine rl_store [] sz24 rfl rfl rfl rfl rfl (Nat.le_of_ble_eq_true rfl) ?_
        refine rl_nil ?_
        refine at_then ?_
        refine ct_seq ?_
        refine ct_dr 6 (by kernel_rfl) (by kernel_rfl) ?_
        refine ql_val gw_none (ov_field fo24_2 rfl) rfl ?_
        first | refine ql_val gw_none (ov_load 0 sc22 rfl rfl rfl) rfl ?_ | refine ql_val gw_none (ov_load 0 sc22 rfl rfl (by assumption)) rfl ?_
        refine ql_val gw_none (ov_move rfl) rfl ?_
        refine ql_val gw_none (ov_move rfl) rfl ?_
        refine ql_callv gw_none goes69 rfl (fun w1 hp => rodOf_c _ _ (by omega)) rfl ?_
        first | refine ql_val gw_none (ov_ix Try.underlying22 sz75 rfl rfl _ rfl (by omega)) rfl ?_ | refine ql_val gw_none (ov_ix Try.underlying22 sz75 rfl rfl (rod.toNat) (by omega) (by omega)) rfl ?_
        refine ql_nil ?_
        refine rl_store [_] sz75 rfl rfl rfl rfl rfl (by rw [List.length_append, flat_length encIntA2_len]; omega) ?_
        refine rl_mem (fun _ hq => hq.cong (congrArg (fun x => _ :: (_, _, x) :: _) (flatSetP encIntA2_len (rodFor d) _ (show rod.toNat < xs.length by omega)))) ?_
        refine rl_nil ?_
        refine at_then ?_
        refine ct_seq ?_
        refine ct_reg ?_
        first | refine rl_val gw_none (ov_loadall 0 ag24 rfl rfl rfl) rfl ?_ | refine rl_val gw_none (ov_loada 0 ag24 rfl rfl rfl (by assumption)) rfl ?_
        refine rl_store [_, _] sz24 rfl rfl rfl rfl rfl (Nat.le_of_ble_eq_true rfl) ?_
        refine rl_val gw_none (ov_assign rfl) rfl ?_
        refine rl_nil ?_
        refine at_then ?_
        refine ct_ret ?_
        refine at_ret2 Try.results23 (ro_cell 2 ag24 rfl rfl rfl) (ro_tmp rfl) (fun w1 hp => ?_)
        unfold setRodR
        first | (rw [okR_no (by first | (simp_all; done) | (simp_all [inB]; done) | (simp_all [inB]; omega) | (cases hAt0 : (frameB u l xs) <;> cases hAt1 : (inB rod 0 ((xs.length : Int) - 1)) <;> cases hAt2 : (inB d 0 9) <;> simp_all; done))]; exact RetSl.nil hp.ext0) | (rw [okR_yes (by first | (simp_all; done) | (simp_all [inB]; done) | (simp_all [inB]; omega) | (cases hAt0 : (frameB u l xs) <;> cases hAt1 : (inB rod 0 ((xs.length : Int) - 1)) <;> cases hAt2 : (inB d 0 9) <;> simp_all; done))]; exact RetSl.ownL 1 hp rfl (Sl.same encIntA2_len hsow (by simp)) (by simp))

theorem sSetRod_c (u : Int) (l : Int) (xs : List IntA2) (rod : Int) (d : Int) (vxs : Value) (w : World) (zu : In64 u) (zl : In64 l) (hGxs : ∀ y ∈ xs, GIntA2 y) (hsxs : SR w 2 vxs xs.length (flat encIntA2 xs)) (zrod : In64 rod) (zd : In64 d) : Calls Try.prog 21 ([.agg (List.toArray (α := Value) [.int .i64 u, .int .i64 l, vxs]), .int .i64 rod, .int .i64 d]).toArray w (fun e w' => RetSl 75 2 (flat encIntA2 (setRodR u l xs rod d).xs) (setRodR u l xs rod d).xs.length (fun s => .tuple #[.agg [.int .i64 (setRodR u l xs rod d).u, .int .i64 (setRodR u l xs rod d).l, s].toArray, .bool (setRodR u l xs rod d).ok]) w e w') := by
  obtain ⟨axs, capxs, rfl, hcapxs, hmaxxs⟩ := hsxs.slice
  have hlenxs := hsxs.len_le
  refine calls_ct Try.func21 Try.ntmps21 rfl rfl ?_
  refine ct_seq ?_
  refine ct_reg ?_
  refine rl_box rfl rfl (fun N1 => ?_)
  refine rl_alloc ze24 rfl (fun N2 => ?_)
  refine rl_val gw_none (ov_assign rfl) rfl ?_
  refine rl_nil ?_
  refine at_then ?_
  refine ct_seq ?_
  refine ct_seq ?_
  refine ct_reg ?_
  first | refine rl_val gw_none (ov_loadall 1 ag24 rfl rfl rfl) rfl ?_ | refine rl_val gw_none (ov_loada 1 ag24 rfl rfl rfl (by assumption)) rfl ?_
  refine rl_val gw_none (ov_move rfl) rfl ?_
  refine rl_callv gw_none goes63 rfl (fun w1 hp => l2Rod_c u l xs _ rod _ zu zl hGxs (hsxs.ext hp.ext0)) rfl ?_
  refine rl_val gw_none (ov_not rfl) rfl ?_
  refine rl_val gw_none (ov_move rfl) rfl ?_
  refine rl_split (t := 13) rfl (fun g1 => ?_) (fun g1 => ?_)
  ·
    have g1' := g1
    try simp only [Bool.not_eq_true', Bool.not_eq_false', Bool.not_not, decide_eq_true_eq, decide_eq_false_iff_not, beq_iff_eq, beq_eq_false_iff_ne, bne_iff_ne, bne_eq_false_iff_eq, Bool.and_eq_true, Bool.or_eq_true, Bool.and_eq_false_iff, Bool.or_eq_false_iff, inB] at g1'
    refine rl_skip (gw_not rfl rfl g1) rfl ?_
    refine rl_skip (gw_not rfl rfl g1) rfl ?_
    refine rl_skip (gw_not rfl rfl g1) rfl ?_
    refine rl_val gw_none (ov_pick_t rfl g1 rfl) rfl ?_
    refine rl_nil ?_
    refine at_then ?_
    refine ct_true rfl rfl ?_
    refine ct_seq ?_
    refine ct_reg ?_
    refine rl_val gw_none (ov_build rfl (bu24_)) rfl ?_
    refine rl_store [] sz24 rfl rfl rfl rfl rfl (Nat.le_of_ble_eq_true rfl) ?_
    refine rl_val gw_none (ov_assign rfl) rfl ?_
    refine rl_nil ?_
    refine at_then ?_
    refine ct_ret ?_
    refine at_then_ret ?_
    refine at_ret2 Try.results21 (ro_cell 0 ag24 rfl rfl rfl) (ro_tmp rfl) (fun w1 hp => ?_)
    unfold setRodR
    first | (rw [okR_no (by first | (simp_all; done) | (simp_all [inB]; done) | (simp_all [inB]; omega) | (cases hAt0 : (frameB u l xs) <;> cases hAt1 : (inB rod 0 ((xs.length : Int) - 1)) <;> cases hAt2 : (inB d 0 9) <;> simp_all; done))]; exact RetSl.nil hp.ext0) | (rw [okR_yes (by first | (simp_all; done) | (simp_all [inB]; done) | (simp_all [inB]; omega) | (cases hAt0 : (frameB u l xs) <;> cases hAt1 : (inB rod 0 ((xs.length : Int) - 1)) <;> cases hAt2 : (inB d 0 9) <;> simp_all; done))]; exact RetSl.ownL 999 hp rfl (Sl.same encIntA2_len no_proof (by simp)) (by simp))
  ·
    have g1' := g1
    try simp only [Bool.not_eq_true', Bool.not_eq_false', Bool.not_not, decide_eq_true_eq, decide_eq_false_iff_not, beq_iff_eq, beq_eq_false_iff_ne, bne_iff_ne, bne_eq_false_iff_eq, Bool.and_eq_true, Bool.or_eq_true, Bool.and_eq_false_iff, Bool.or_eq_false_iff, inB] at g1'
    refine rl_val (gw_some rfl rfl g1) (ov_move rfl) rfl ?_
    refine rl_callv (gw_some rfl rfl g1) goes52 rfl (fun w1 hp => l1In_c _ _ _ _) rfl ?_
    refine rl_val (gw_some rfl rfl g1) (ov_not rfl) rfl ?_
    refine rl_val gw_none (ov_pick_f rfl g1 rfl) rfl ?_
    refine rl_nil ?_
    refine at_then ?_
    first | refine ct_dec rfl (fun h1 => ?_) (fun h1 => ?_) | refine ct_ndec rfl (fun h1 => ?_) (fun h1 => ?_) | refine ct_eq rfl (fun h1 => ?_) (fun h1 => ?_) | refine ct_ne rfl (fun h1 => ?_) (fun h1 => ?_) | refine ct_not rfl (fun h1 => ?_) (fun h1 => ?_) | refine ct_cond rfl (fun h1 => ?_) (fun h1 => ?_)
    ·
      refine ct_seq ?_
      refine ct_reg ?_
      refine rl_val gw_none (ov_build rfl (bu24_)) rfl ?_
      refine rl_store [] sz24 rfl rfl rfl rfl rfl (Nat.le_of_ble_eq_true rfl) ?_
      refine rl_val gw_none (ov_assign rfl) rfl ?_
      refine rl_nil ?_
      refine at_then ?_
      refine ct_ret ?_
      refine at_then_ret ?_
      refine at_ret2 Try.results21 (ro_cell 0 ag24 rfl rfl rfl) (ro_tmp rfl) (fun w1 hp => ?_)
      unfold setRodR
      first | (rw [okR_no (by first | (simp_all; done) | (simp_all [inB]; done) | (simp_all [inB]; omega) | (cases hAt0 : (frameB u l xs) <;> cases hAt1 : (inB rod 0 ((xs.length : Int) - 1)) <;> cases hAt2 : (inB d 0 9) <;> simp_all; done))]; exact RetSl.nil hp.ext0) | (rw [okR_yes (by first | (simp_all; done) | (simp_all [inB]; done) | (simp_all [inB]; omega) | (cases hAt0 : (frameB u l xs) <;> cases hAt1 : (inB rod 0 ((xs.length : Int) - 1)) <;> cases hAt2 : (inB d 0 9) <;> simp_all; done))]; exact RetSl.ownL 999 hp rfl (Sl.same encIntA2_len no_proof (by simp)) (by simp))
    ·
      have hfr := g1
      simp only [Bool.not_eq_false', Bool.and_eq_true] at hfr
      have hf := hfr.1
      have h8 := (frameB_ul hf).2.2.2
      have hl1 := (frameB_ul hf).2.2.1
      have hrb := hfr.2
      simp only [inB, Bool.not_eq_false', Bool.and_eq_true, decide_eq_true_eq] at hrb
      have hdb := h1
      simp only [inB, Bool.not_eq_false', Bool.and_eq_true, decide_eq_true_eq] at hdb
      refine ct_skip ?_
      refine at_then ?_
      refine ct_seq ?_
      refine ct_reg ?_
      first | refine rl_val gw_none (ov_loadall 1 ag24 rfl rfl rfl) rfl ?_ | refine rl_val gw_none (ov_loada 1 ag24 rfl rfl rfl (by assumption)) rfl ?_
      refine rl_callsl (ι := Nat × List Value) (fun i bo => .agg [.int .i64 u, .int .i64 l, sv bo (xs).length i.1].toArray) (fun i => flat encIntA2 (xs) ++ i.2) (fun i bo => Sl 2 bo (xs).length i.1 (flat encIntA2 (xs)) i.2) goes64 rfl (fun w1 hp => l2Own_c u l xs _ _ zu zl hGxs (hsxs.ext hp.ext0) h8) rfl (fun iow boow hsow => ?_)
      obtain ⟨bow, rfl⟩ := Sl.some hsow (by omega)
      refine rl_alloc ze24 rfl (fun N3 => ?_)
      refine rl_store [] sz24 rfl rfl rfl rfl rfl (Nat.le_of_ble_eq_true rfl) ?_
      refine rl_nil ?_
      refine at_then ?_
      refine ct_seq ?_
      refine ct_dr 6 (by kernel_rfl) (by kernel_rfl) ?_
      refine ql_val gw_none (ov_field fo24_2 rfl) rfl ?_
      first | refine ql_val gw_none (ov_load 0 sc22 rfl rfl rfl) rfl ?_ | refine ql_val gw_none (ov_load 0 sc22 rfl rfl (by assumption)) rfl ?_
      refine ql_val gw_none (ov_move rfl) rfl ?_
      refine ql_val gw_none (ov_move rfl) rfl ?_
      refine ql_callv gw_none goes65 rfl (fun w1 hp => l2Digit_c _ _ (by omega)) rfl ?_
      first | refine ql_val gw_none (ov_ix Try.underlying22 sz75 rfl rfl _ rfl (by omega)) rfl ?_ | refine ql_val gw_none (ov_ix Try.underlying22 sz75 rfl rfl (rod.toNat) (by omega) (by omega)) rfl ?_
      refine ql_nil ?_
      refine rl_store [_] sz75 rfl rfl rfl rfl rfl (by rw [List.length_append, flat_length encIntA2_len]; omega) ?_
      refine rl_mem (fun _ hq => hq.cong (congrArg (fun x => _ :: (_, _, x) :: _) (flatSetP encIntA2_len (rodFor d) _ (show rod.toNat < xs.length by omega)))) ?_
      refine rl_nil ?_
      refine at_then ?_
      refine ct_seq ?_
      refine ct_reg ?_
      first | refine rl_val gw_none (ov_loadall 0 ag24 rfl rfl rfl) rfl ?_ | refine rl_val gw_none (ov_loada 0 ag24 rfl rfl rfl (by assumption)) rfl ?_
      refine rl_store [_, _] sz24 rfl rfl rfl rfl rfl (Nat.le_of_ble_eq_true rfl) ?_
      refine rl_val gw_none (ov_assign rfl) rfl ?_
      refine rl_nil ?_
      refine at_then ?_
      refine ct_ret ?_
      refine at_ret2 Try.results21 (ro_cell 2 ag24 rfl rfl rfl) (ro_tmp rfl) (fun w1 hp => ?_)
      unfold setRodR
      first | (rw [okR_no (by first | (simp_all; done) | (simp_all [inB]; done) | (simp_all [inB]; omega) | (cases hAt0 : (frameB u l xs) <;> cases hAt1 : (inB rod 0 ((xs.length : Int) - 1)) <;> cases hAt2 : (inB d 0 9) <;> simp_all; done))]; exact RetSl.nil hp.ext0) | (rw [okR_yes (by first | (simp_all; done) | (simp_all [inB]; done) | (simp_all [inB]; omega) | (cases hAt0 : (frameB u l xs) <;> cases hAt1 : (inB rod 0 ((xs.length : Int) - 1)) <;> cases hAt2 : (inB d 0 9) <;> simp_all; done))]; exact RetSl.ownL 1 hp rfl (Sl.same encIntA2_len hsow (by simp)) (by simp))

theorem iCleared_c (u : Int) (l : Int) (xs : List IntA2) (vxs : Value) (w : World) (zu : In64 u) (zl : In64 l) (hGxs : ∀ y ∈ xs, GIntA2 y) (hsxs : SR w 2 vxs xs.length (flat encIntA2 xs)) : Calls Try.prog 25 ([.agg (List.toArray (α := Value) [.int .i64 u, .int .i64 l, vxs])]).toArray w (fun e w' => RetSl 75 2 (flat encIntA2 (clearedR u l xs).xs) (clearedR u l xs).xs.length (fun s => .tuple #[.agg [.int .i64 (clearedR u l xs).u, .int .i64 (clearedR u l xs).l, s].toArray, .bool (clearedR u l xs).ok]) w e w') := by
  obtain ⟨axs, capxs, rfl, hcapxs, hmaxxs⟩ := hsxs.slice
  have hlenxs := hsxs.len_le
  refine calls_ct Try.func25 Try.ntmps25 rfl rfl ?_
  refine ct_seq ?_
  refine ct_reg ?_
  refine rl_box rfl rfl (fun N1 => ?_)
  refine rl_alloc ze24 rfl (fun N2 => ?_)
  refine rl_val gw_none (ov_assign rfl) rfl ?_
  refine rl_nil ?_
  refine at_then ?_
  refine ct_seq ?_
  refine ct_seq ?_
  refine ct_reg ?_
  first | refine rl_val gw_none (ov_loadall 1 ag24 rfl rfl rfl) rfl ?_ | refine rl_val gw_none (ov_loada 1 ag24 rfl rfl rfl (by assumption)) rfl ?_
  refine rl_callv gw_none goes56 rfl (fun w1 hp => iIsFrame_c u l xs _ _ zu zl hGxs (hsxs.ext hp.ext0)) rfl ?_
  refine rl_val gw_none (ov_not rfl) rfl ?_
  refine rl_nil ?_
  refine at_then ?_
  first | refine ct_dec rfl (fun h1 => ?_) (fun h1 => ?_) | refine ct_ndec rfl (fun h1 => ?_) (fun h1 => ?_) | refine ct_eq rfl (fun h1 => ?_) (fun h1 => ?_) | refine ct_ne rfl (fun h1 => ?_) (fun h1 => ?_) | refine ct_not rfl (fun h1 => ?_) (fun h1 => ?_) | refine ct_cond rfl (fun h1 => ?_) (fun h1 => ?_)
  ·
    refine ct_seq ?_
    refine ct_reg ?_
    refine rl_val gw_none (ov_build rfl (bu24_)) rfl ?_
    refine rl_store [] sz24 rfl rfl rfl rfl rfl (Nat.le_of_ble_eq_true rfl) ?_
    refine rl_val gw_none (ov_assign rfl) rfl ?_
    refine rl_nil ?_
    refine at_then ?_
    refine ct_ret ?_
    refine at_then_ret ?_
    refine at_ret2 Try.results25 (ro_cell 0 ag24 rfl rfl rfl) (ro_tmp rfl) (fun w1 hp => ?_)
    unfold clearedR
    first | (rw [okR_no (by first | (simp_all; done) | (simp_all [inB]; done) | (simp_all [inB]; omega))]; exact RetSl.nil hp.ext0) | (rw [okR_yes (by first | (simp_all; done) | (simp_all [inB]; done) | (simp_all [inB]; omega))]; exact RetSl.ownL 999 hp rfl no_proof (showL_len _ _).symm)
  ·
    have hf : frameB u l xs = true := by simpa using h1
    have h8 := (frameB_ul hf).2.2.2
    have hl1 := (frameB_ul hf).2.2.1
    have hnb := numF_all hf
    refine ct_skip ?_
    refine at_then ?_
    refine ct_seq ?_
    refine ct_reg ?_
    first | refine rl_val gw_none (ov_loadall 1 ag24 rfl rfl rfl) rfl ?_ | refine rl_val gw_none (ov_loada 1 ag24 rfl rfl rfl (by assumption)) rfl ?_
    refine rl_callsl (ι := Nat × List Value) (fun i bo => .agg [.int .i64 u, .int .i64 l, sv bo (xs).length i.1].toArray) (fun i => flat encIntA2 (showL (0) (xs).length) ++ i.2) (fun i bo => Sl 2 bo (xs).length i.1 (flat encIntA2 (showL (0) (xs).length)) i.2) goes58 rfl (fun w1 hp => showing_c u l xs 0 _ _ zu zl hGxs (hsxs.ext hp.ext0) h8 hl1 (by omega)) rfl (fun ish bosh hssh => ?_)
    refine rl_store [_] sz24 rfl rfl rfl rfl rfl (Nat.le_of_ble_eq_true rfl) ?_
    refine rl_val gw_none (ov_assign rfl) rfl ?_
    refine rl_nil ?_
    refine at_then ?_
    refine ct_ret ?_
    refine at_ret2 Try.results25 (ro_cell 1 ag24 rfl rfl rfl) (ro_tmp rfl) (fun w1 hp => ?_)
    unfold clearedR
    first | (rw [okR_no (by first | (simp_all; done) | (simp_all [inB]; done) | (simp_all [inB]; omega))]; exact RetSl.nil hp.ext0) | (rw [okR_yes (by first | (simp_all; done) | (simp_all [inB]; done) | (simp_all [inB]; omega))]; exact RetSl.ownL 0 hp rfl hssh (showL_len _ _).symm)

theorem sCleared_c (u : Int) (l : Int) (xs : List IntA2) (vxs : Value) (w : World) (zu : In64 u) (zl : In64 l) (hGxs : ∀ y ∈ xs, GIntA2 y) (hsxs : SR w 2 vxs xs.length (flat encIntA2 xs)) : Calls Try.prog 24 ([.agg (List.toArray (α := Value) [.int .i64 u, .int .i64 l, vxs])]).toArray w (fun e w' => RetSl 75 2 (flat encIntA2 (clearedR u l xs).xs) (clearedR u l xs).xs.length (fun s => .tuple #[.agg [.int .i64 (clearedR u l xs).u, .int .i64 (clearedR u l xs).l, s].toArray, .bool (clearedR u l xs).ok]) w e w') := by
  obtain ⟨axs, capxs, rfl, hcapxs, hmaxxs⟩ := hsxs.slice
  have hlenxs := hsxs.len_le
  refine calls_ct Try.func24 Try.ntmps24 rfl rfl ?_
  refine ct_seq ?_
  refine ct_reg ?_
  refine rl_box rfl rfl (fun N1 => ?_)
  refine rl_alloc ze24 rfl (fun N2 => ?_)
  refine rl_val gw_none (ov_assign rfl) rfl ?_
  refine rl_nil ?_
  refine at_then ?_
  refine ct_seq ?_
  refine ct_seq ?_
  refine ct_reg ?_
  first | refine rl_val gw_none (ov_loadall 1 ag24 rfl rfl rfl) rfl ?_ | refine rl_val gw_none (ov_loada 1 ag24 rfl rfl rfl (by assumption)) rfl ?_
  refine rl_callv gw_none goes70 rfl (fun w1 hp => l2Good_c u l xs _ _ zu zl hGxs (hsxs.ext hp.ext0)) rfl ?_
  refine rl_val gw_none (ov_not rfl) rfl ?_
  refine rl_nil ?_
  refine at_then ?_
  first | refine ct_dec rfl (fun h1 => ?_) (fun h1 => ?_) | refine ct_ndec rfl (fun h1 => ?_) (fun h1 => ?_) | refine ct_eq rfl (fun h1 => ?_) (fun h1 => ?_) | refine ct_ne rfl (fun h1 => ?_) (fun h1 => ?_) | refine ct_not rfl (fun h1 => ?_) (fun h1 => ?_) | refine ct_cond rfl (fun h1 => ?_) (fun h1 => ?_)
  ·
    refine ct_seq ?_
    refine ct_reg ?_
    refine rl_val gw_none (ov_build rfl (bu24_)) rfl ?_
    refine rl_store [] sz24 rfl rfl rfl rfl rfl (Nat.le_of_ble_eq_true rfl) ?_
    refine rl_val gw_none (ov_assign rfl) rfl ?_
    refine rl_nil ?_
    refine at_then ?_
    refine ct_ret ?_
    refine at_then_ret ?_
    refine at_ret2 Try.results24 (ro_cell 0 ag24 rfl rfl rfl) (ro_tmp rfl) (fun w1 hp => ?_)
    unfold clearedR
    first | (rw [okR_no (by first | (simp_all; done) | (simp_all [inB]; done) | (simp_all [inB]; omega))]; exact RetSl.nil hp.ext0) | (rw [okR_yes (by first | (simp_all; done) | (simp_all [inB]; done) | (simp_all [inB]; omega))]; exact RetSl.ownL 999 hp rfl no_proof (showL_len _ _).symm)
  ·
    have hf : frameB u l xs = true := by simpa using h1
    have h8 := (frameB_ul hf).2.2.2
    have hl1 := (frameB_ul hf).2.2.1
    have hnb := numF_all hf
    refine ct_skip ?_
    refine at_then ?_
    refine ct_seq ?_
    refine ct_reg ?_
    refine rl_val gw_none (ov_field fo24_0 rfl) rfl ?_
    first | refine rl_val gw_none (ov_load 1 sc3 rfl rfl rfl) rfl ?_ | refine rl_val gw_none (ov_load 1 sc3 rfl rfl (by assumption)) rfl ?_
    refine rl_val gw_none (ov_field fo24_1 rfl) rfl ?_
    first | refine rl_val gw_none (ov_load 1 sc3 rfl rfl rfl) rfl ?_ | refine rl_val gw_none (ov_load 1 sc3 rfl rfl (by assumption)) rfl ?_
    refine rl_val gw_none (ov_field fo24_2 rfl) rfl ?_
    first | refine rl_val gw_none (ov_load 1 sc22 rfl rfl rfl) rfl ?_ | refine rl_val gw_none (ov_load 1 sc22 rfl rfl (by assumption)) rfl ?_
    refine rl_val gw_none (ov_len Try.underlying22 rfl) rfl ?_
    refine rl_callsl (ι := Nat × List Value) (fun i bo => .agg [.int .i64 u, .int .i64 l, sv bo (xs.length) i.1].toArray) (fun i => flat encIntA2 (showL (0) (xs.length)) ++ i.2) (fun i bo => Sl 2 bo (xs.length) i.1 (flat encIntA2 (showL (0) (xs.length))) i.2) goes54 rfl (fun w1 hp => l2For_c u l _ (0) (xs.length) _ rfl ⟨hl1, h8⟩ (by omega)) rfl (fun ish bosh hssh => ?_)
    refine rl_store [_] sz24 rfl rfl rfl rfl rfl (Nat.le_of_ble_eq_true rfl) ?_
    refine rl_val gw_none (ov_assign rfl) rfl ?_
    refine rl_nil ?_
    refine at_then ?_
    refine ct_ret ?_
    refine at_ret2 Try.results24 (ro_cell 1 ag24 rfl rfl rfl) (ro_tmp rfl) (fun w1 hp => ?_)
    unfold clearedR
    first | (rw [okR_no (by first | (simp_all; done) | (simp_all [inB]; done) | (simp_all [inB]; omega))]; exact RetSl.nil hp.ext0) | (rw [okR_yes (by first | (simp_all; done) | (simp_all [inB]; done) | (simp_all [inB]; omega))]; exact RetSl.ownL 0 hp rfl hssh (showL_len _ _).symm)

theorem iMadeStandard_c (u : Int) (l : Int) (xs : List IntA2) (vxs : Value) (w : World) (zu : In64 u) (zl : In64 l) (hGxs : ∀ y ∈ xs, GIntA2 y) (hsxs : SR w 2 vxs xs.length (flat encIntA2 xs)) : Calls Try.prog 27 ([.agg (List.toArray (α := Value) [.int .i64 u, .int .i64 l, vxs])]).toArray w (fun e w' => RetSl 75 2 (flat encIntA2 (madeR u l xs).xs) (madeR u l xs).xs.length (fun s => .tuple #[.agg [.int .i64 (madeR u l xs).u, .int .i64 (madeR u l xs).l, s].toArray, .bool (madeR u l xs).ok]) w e w') := by
  obtain ⟨axs, capxs, rfl, hcapxs, hmaxxs⟩ := hsxs.slice
  have hlenxs := hsxs.len_le
  refine calls_ct Try.func27 Try.ntmps27 rfl rfl ?_
  refine ct_seq ?_
  refine ct_reg ?_
  refine rl_box rfl rfl (fun N1 => ?_)
  refine rl_alloc ze24 rfl (fun N2 => ?_)
  refine rl_val gw_none (ov_assign rfl) rfl ?_
  refine rl_nil ?_
  refine at_then ?_
  refine ct_seq ?_
  refine ct_seq ?_
  refine ct_dr 10 (by kernel_rfl) (by kernel_rfl) ?_
  first | refine ql_val gw_none (ov_loadall 1 ag24 rfl rfl rfl) rfl ?_ | refine ql_val gw_none (ov_loada 1 ag24 rfl rfl rfl (by assumption)) rfl ?_
  refine ql_callv gw_none goes56 rfl (fun w1 hp => iIsFrame_c u l xs _ _ zu zl hGxs (hsxs.ext hp.ext0)) rfl ?_
  refine ql_val gw_none (ov_not rfl) rfl ?_
  refine ql_val gw_none (ov_move rfl) rfl ?_
  refine ql_split (t := 7) rfl (fun g1 => ?_) (fun g1 => ?_)
  ·
    have g1' := g1
    try simp only [Bool.not_eq_true', Bool.not_eq_false', Bool.not_not, decide_eq_true_eq, decide_eq_false_iff_not, beq_iff_eq, beq_eq_false_iff_ne, bne_iff_ne, bne_eq_false_iff_eq, Bool.and_eq_true, Bool.or_eq_true, Bool.and_eq_false_iff, Bool.or_eq_false_iff, inB] at g1'
    refine ql_skip (gw_not rfl rfl g1) rfl ?_
    refine ql_skip (gw_not rfl rfl g1) rfl ?_
    refine ql_skip (gw_not rfl rfl g1) rfl ?_
    refine ql_skip (gw_not rfl rfl g1) rfl ?_
    refine ql_skip (gw_not rfl rfl g1) rfl ?_
    refine ql_val gw_none (ov_pick_t rfl g1 rfl) rfl ?_
    refine ql_nil ?_
    refine rl_nil ?_
    refine at_then ?_
    refine ct_true rfl rfl ?_
    refine ct_seq ?_
    refine ct_reg ?_
    refine rl_val gw_none (ov_build rfl (bu24_)) rfl ?_
    refine rl_store [] sz24 rfl rfl rfl rfl rfl (Nat.le_of_ble_eq_true rfl) ?_
    refine rl_val gw_none (ov_assign rfl) rfl ?_
    refine rl_nil ?_
    refine at_then ?_
    refine ct_ret ?_
    refine at_then_ret ?_
    refine at_ret2 Try.results27 (ro_cell 0 ag24 rfl rfl rfl) (ro_tmp rfl) (fun w1 hp => ?_)
    unfold madeR
    first | (rw [okR_no (by first | (simp_all; done) | (simp_all [inB]; done) | (simp_all [inB]; omega))]; exact RetSl.nil hp.ext0) | (rw [okR_yes (by first | (simp_all; done) | (simp_all [inB]; done) | (simp_all [inB]; omega))]; exact RetSl.ownL 999 hp rfl no_proof (showL_len _ _).symm)
  ·
    have hf : frameB u l xs = true := by simpa using g1
    have h8 := (frameB_ul hf).2.2.2
    have hl1 := (frameB_ul hf).2.2.1
    have hnb := numF_all hf
    first | refine ql_val (gw_some rfl rfl g1) (ov_loadall 1 ag24 rfl rfl rfl) rfl ?_ | refine ql_val (gw_some rfl rfl g1) (ov_loada 1 ag24 rfl rfl rfl (by assumption)) rfl ?_
    first | refine ql_val (gw_some rfl rfl g1) (ov_loadall 1 ag24 rfl rfl rfl) rfl ?_ | refine ql_val (gw_some rfl rfl g1) (ov_loada 1 ag24 rfl rfl rfl (by assumption)) rfl ?_
    refine ql_callv (gw_some rfl rfl g1) goes72 rfl (fun w1 hp => number_c u l xs _ _ zu zl hGxs (hsxs.ext hp.ext0) hf) rfl ?_
    refine ql_callv (gw_some rfl rfl g1) goes57 rfl (fun w1 hp => fitsOn_c u l xs _ (numF xs) _ zu zl hGxs (hsxs.ext hp.ext0) h8) rfl ?_
    refine ql_val (gw_some rfl rfl g1) (ov_not rfl) rfl ?_
    refine ql_val gw_none (ov_pick_f rfl g1 rfl) rfl ?_
    refine ql_nil ?_
    refine rl_nil ?_
    refine at_then ?_
    first | refine ct_dec rfl (fun h1 => ?_) (fun h1 => ?_) | refine ct_ndec rfl (fun h1 => ?_) (fun h1 => ?_) | refine ct_eq rfl (fun h1 => ?_) (fun h1 => ?_) | refine ct_ne rfl (fun h1 => ?_) (fun h1 => ?_) | refine ct_not rfl (fun h1 => ?_) (fun h1 => ?_) | refine ct_cond rfl (fun h1 => ?_) (fun h1 => ?_)
    ·
      refine ct_seq ?_
      refine ct_reg ?_
      refine rl_val gw_none (ov_build rfl (bu24_)) rfl ?_
      refine rl_store [] sz24 rfl rfl rfl rfl rfl (Nat.le_of_ble_eq_true rfl) ?_
      refine rl_val gw_none (ov_assign rfl) rfl ?_
      refine rl_nil ?_
      refine at_then ?_
      refine ct_ret ?_
      refine at_then_ret ?_
      refine at_ret2 Try.results27 (ro_cell 0 ag24 rfl rfl rfl) (ro_tmp rfl) (fun w1 hp => ?_)
      unfold madeR
      first | (rw [okR_no (by first | (simp_all; done) | (simp_all [inB]; done) | (simp_all [inB]; omega))]; exact RetSl.nil hp.ext0) | (rw [okR_yes (by first | (simp_all; done) | (simp_all [inB]; done) | (simp_all [inB]; omega))]; exact RetSl.ownL 999 hp rfl no_proof (showL_len _ _).symm)
    ·
      refine ct_skip ?_
      refine at_then ?_
      refine ct_seq ?_
      refine ct_dr 3 (by kernel_rfl) (by kernel_rfl) ?_
      first | refine ql_val gw_none (ov_loadall 1 ag24 rfl rfl rfl) rfl ?_ | refine ql_val gw_none (ov_loada 1 ag24 rfl rfl rfl (by assumption)) rfl ?_
      first | refine ql_val gw_none (ov_loadall 1 ag24 rfl rfl rfl) rfl ?_ | refine ql_val gw_none (ov_loada 1 ag24 rfl rfl rfl (by assumption)) rfl ?_
      refine ql_callv gw_none goes72 rfl (fun w1 hp => number_c u l xs _ _ zu zl hGxs (hsxs.ext hp.ext0) hf) rfl ?_
      refine ql_nil ?_
      refine rl_callsl (ι := Nat × List Value) (fun i bo => .agg [.int .i64 u, .int .i64 l, sv bo (xs).length i.1].toArray) (fun i => flat encIntA2 (showL (numF xs) (xs).length) ++ i.2) (fun i bo => Sl 2 bo (xs).length i.1 (flat encIntA2 (showL (numF xs) (xs).length)) i.2) goes58 rfl (fun w1 hp => showing_c u l xs (numF xs) _ _ zu zl hGxs (hsxs.ext hp.ext0) h8 hl1 (by omega)) rfl (fun ish bosh hssh => ?_)
      refine rl_store [_] sz24 rfl rfl rfl rfl rfl (Nat.le_of_ble_eq_true rfl) ?_
      refine rl_val gw_none (ov_assign rfl) rfl ?_
      refine rl_nil ?_
      refine at_then ?_
      refine ct_ret ?_
      refine at_ret2 Try.results27 (ro_cell 1 ag24 rfl rfl rfl) (ro_tmp rfl) (fun w1 hp => ?_)
      unfold madeR
      first | (rw [okR_no (by first | (simp_all; done) | (simp_all [inB]; done) | (simp_all [inB]; omega))]; exact RetSl.nil hp.ext0) | (rw [okR_yes (by first | (simp_all; done) | (simp_all [inB]; done) | (simp_all [inB]; omega))]; exact RetSl.ownL 0 hp rfl hssh (showL_len _ _).symm)

theorem sMadeStandard_c (u : Int) (l : Int) (xs : List IntA2) (vxs : Value) (w : World) (zu : In64 u) (zl : In64 l) (hGxs : ∀ y ∈ xs, GIntA2 y) (hsxs : SR w 2 vxs xs.length (flat encIntA2 xs)) : Calls Try.prog 26 ([.agg (List.toArray (α := Value) [.int .i64 u, .int .i64 l, vxs])]).toArray w (fun e w' => RetSl 75 2 (flat encIntA2 (madeR u l xs).xs) (madeR u l xs).xs.length (fun s => .tuple #[.agg [.int .i64 (madeR u l xs).u, .int .i64 (madeR u l xs).l, s].toArray, .bool (madeR u l xs).ok]) w e w') := by
  obtain ⟨axs, capxs, rfl, hcapxs, hmaxxs⟩ := hsxs.slice
  have hlenxs := hsxs.len_le
  refine calls_ct Try.func26 Try.ntmps26 rfl rfl ?_
  refine ct_seq ?_
  refine ct_reg ?_
  refine rl_box rfl rfl (fun N1 => ?_)
  refine rl_alloc ze24 rfl (fun N2 => ?_)
  refine rl_val gw_none (ov_assign rfl) rfl ?_
  refine rl_nil ?_
  refine at_then ?_
  refine ct_seq ?_
  refine ct_seq ?_
  refine ct_dr 12 (by kernel_rfl) (by kernel_rfl) ?_
  first | refine ql_val gw_none (ov_loadall 1 ag24 rfl rfl rfl) rfl ?_ | refine ql_val gw_none (ov_loada 1 ag24 rfl rfl rfl (by assumption)) rfl ?_
  refine ql_callv gw_none goes70 rfl (fun w1 hp => l2Good_c u l xs _ _ zu zl hGxs (hsxs.ext hp.ext0)) rfl ?_
  refine ql_val gw_none (ov_not rfl) rfl ?_
  refine ql_val gw_none (ov_move rfl) rfl ?_
  refine ql_split (t := 7) rfl (fun g1 => ?_) (fun g1 => ?_)
  ·
    have g1' := g1
    try simp only [Bool.not_eq_true', Bool.not_eq_false', Bool.not_not, decide_eq_true_eq, decide_eq_false_iff_not, beq_iff_eq, beq_eq_false_iff_ne, bne_iff_ne, bne_eq_false_iff_eq, Bool.and_eq_true, Bool.or_eq_true, Bool.and_eq_false_iff, Bool.or_eq_false_iff, inB] at g1'
    refine ql_skip (gw_not rfl rfl g1) rfl ?_
    refine ql_skip (gw_not rfl rfl g1) rfl ?_
    refine ql_skip (gw_not rfl rfl g1) rfl ?_
    refine ql_skip (gw_not rfl rfl g1) rfl ?_
    refine ql_skip (gw_not rfl rfl g1) rfl ?_
    refine ql_skip (gw_not rfl rfl g1) rfl ?_
    refine ql_skip (gw_not rfl rfl g1) rfl ?_
    refine ql_val gw_none (ov_pick_t rfl g1 rfl) rfl ?_
    refine ql_nil ?_
    refine rl_nil ?_
    refine at_then ?_
    refine ct_true rfl rfl ?_
    refine ct_seq ?_
    refine ct_reg ?_
    refine rl_val gw_none (ov_build rfl (bu24_)) rfl ?_
    refine rl_store [] sz24 rfl rfl rfl rfl rfl (Nat.le_of_ble_eq_true rfl) ?_
    refine rl_val gw_none (ov_assign rfl) rfl ?_
    refine rl_nil ?_
    refine at_then ?_
    refine ct_ret ?_
    refine at_then_ret ?_
    refine at_ret2 Try.results26 (ro_cell 0 ag24 rfl rfl rfl) (ro_tmp rfl) (fun w1 hp => ?_)
    unfold madeR
    first | (rw [okR_no (by first | (simp_all; done) | (simp_all [inB]; done) | (simp_all [inB]; omega))]; exact RetSl.nil hp.ext0) | (rw [okR_yes (by first | (simp_all; done) | (simp_all [inB]; done) | (simp_all [inB]; omega))]; exact RetSl.ownL 999 hp rfl no_proof (showL_len _ _).symm)
  ·
    have hf : frameB u l xs = true := by simpa using g1
    have h8 := (frameB_ul hf).2.2.2
    have hl1 := (frameB_ul hf).2.2.1
    have hnb := numF_all hf
    first | refine ql_val (gw_some rfl rfl g1) (ov_loadall 1 ag24 rfl rfl rfl) rfl ?_ | refine ql_val (gw_some rfl rfl g1) (ov_loada 1 ag24 rfl rfl rfl (by assumption)) rfl ?_
    refine ql_callv (gw_some rfl rfl g1) goes71 rfl (fun w1 hp => l2Number_c u l xs _ _ zu zl hGxs (hsxs.ext hp.ext0) hf) rfl ?_
    refine ql_val (gw_some rfl rfl g1) (ov_field fo24_2 rfl) rfl ?_
    first | refine ql_val (gw_some rfl rfl g1) (ov_load 1 sc22 rfl rfl rfl) rfl ?_ | refine ql_val (gw_some rfl rfl g1) (ov_load 1 sc22 rfl rfl (by assumption)) rfl ?_
    refine ql_val (gw_some rfl rfl g1) (ov_len Try.underlying22 rfl) rfl ?_
    refine ql_callv (gw_some rfl rfl g1) goes53 rfl (fun w1 hp => l2Power_c _ xs.length _ rfl (by omega)) rfl ?_
    refine ql_val (gw_some rfl rfl g1) (ov_geq rfl rfl) rfl ?_
    refine ql_val gw_none (ov_pick_f rfl g1 rfl) rfl ?_
    refine ql_nil ?_
    refine rl_nil ?_
    refine at_then ?_
    first | refine ct_dec rfl (fun h1 => ?_) (fun h1 => ?_) | refine ct_ndec rfl (fun h1 => ?_) (fun h1 => ?_) | refine ct_eq rfl (fun h1 => ?_) (fun h1 => ?_) | refine ct_ne rfl (fun h1 => ?_) (fun h1 => ?_) | refine ct_not rfl (fun h1 => ?_) (fun h1 => ?_) | refine ct_cond rfl (fun h1 => ?_) (fun h1 => ?_)
    ·
      refine ct_seq ?_
      refine ct_reg ?_
      refine rl_val gw_none (ov_build rfl (bu24_)) rfl ?_
      refine rl_store [] sz24 rfl rfl rfl rfl rfl (Nat.le_of_ble_eq_true rfl) ?_
      refine rl_val gw_none (ov_assign rfl) rfl ?_
      refine rl_nil ?_
      refine at_then ?_
      refine ct_ret ?_
      refine at_then_ret ?_
      refine at_ret2 Try.results26 (ro_cell 0 ag24 rfl rfl rfl) (ro_tmp rfl) (fun w1 hp => ?_)
      unfold madeR
      first | (rw [okR_no (by first | (simp_all; done) | (simp_all [inB]; done) | (simp_all [inB]; omega))]; exact RetSl.nil hp.ext0) | (rw [okR_yes (by first | (simp_all; done) | (simp_all [inB]; done) | (simp_all [inB]; omega))]; exact RetSl.ownL 999 hp rfl no_proof (showL_len _ _).symm)
    ·
      refine ct_skip ?_
      refine at_then ?_
      refine ct_seq ?_
      refine ct_dr 9 (by kernel_rfl) (by kernel_rfl) ?_
      refine ql_val gw_none (ov_field fo24_0 rfl) rfl ?_
      first | refine ql_val gw_none (ov_load 1 sc3 rfl rfl rfl) rfl ?_ | refine ql_val gw_none (ov_load 1 sc3 rfl rfl (by assumption)) rfl ?_
      refine ql_val gw_none (ov_field fo24_1 rfl) rfl ?_
      first | refine ql_val gw_none (ov_load 1 sc3 rfl rfl rfl) rfl ?_ | refine ql_val gw_none (ov_load 1 sc3 rfl rfl (by assumption)) rfl ?_
      refine ql_val gw_none (ov_field fo24_2 rfl) rfl ?_
      first | refine ql_val gw_none (ov_load 1 sc22 rfl rfl rfl) rfl ?_ | refine ql_val gw_none (ov_load 1 sc22 rfl rfl (by assumption)) rfl ?_
      refine ql_val gw_none (ov_len Try.underlying22 rfl) rfl ?_
      first | refine ql_val gw_none (ov_loadall 1 ag24 rfl rfl rfl) rfl ?_ | refine ql_val gw_none (ov_loada 1 ag24 rfl rfl rfl (by assumption)) rfl ?_
      refine ql_callv gw_none goes71 rfl (fun w1 hp => l2Number_c u l xs _ _ zu zl hGxs (hsxs.ext hp.ext0) hf) rfl ?_
      refine ql_nil ?_
      refine rl_callsl (ι := Nat × List Value) (fun i bo => .agg [.int .i64 u, .int .i64 l, sv bo (xs.length) i.1].toArray) (fun i => flat encIntA2 (showL (numF xs) (xs.length)) ++ i.2) (fun i bo => Sl 2 bo (xs.length) i.1 (flat encIntA2 (showL (numF xs) (xs.length))) i.2) goes54 rfl (fun w1 hp => l2For_c u l _ (numF xs) (xs.length) _ rfl ⟨hl1, h8⟩ (by omega)) rfl (fun ish bosh hssh => ?_)
      refine rl_store [_] sz24 rfl rfl rfl rfl rfl (Nat.le_of_ble_eq_true rfl) ?_
      refine rl_val gw_none (ov_assign rfl) rfl ?_
      refine rl_nil ?_
      refine at_then ?_
      refine ct_ret ?_
      refine at_ret2 Try.results26 (ro_cell 1 ag24 rfl rfl rfl) (ro_tmp rfl) (fun w1 hp => ?_)
      unfold madeR
      first | (rw [okR_no (by first | (simp_all; done) | (simp_all [inB]; done) | (simp_all [inB]; omega))]; exact RetSl.nil hp.ext0) | (rw [okR_yes (by first | (simp_all; done) | (simp_all [inB]; done) | (simp_all [inB]; omega))]; exact RetSl.ownL 0 hp rfl hssh (showL_len _ _).symm)
end Go.Proofs.Ytaohanhgengicaa
