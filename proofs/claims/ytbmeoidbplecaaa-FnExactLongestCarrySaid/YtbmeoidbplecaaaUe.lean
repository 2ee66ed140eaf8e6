import Derived.Test.YtbmeoidbplecaaaTb
import Derived.Test.YtbmeoidbplecaaaAa
import Derived.Test.YtbmeoidbplecaaaKo
import Derived.KernelRfl
set_option linter.unusedVariables false
set_option linter.unusedSimpArgs false
namespace Go.Proofs.Ytbmeoidbplecaaa
open Go Go.RowKit K
theorem l6CanDigit_c (u : Int) (l : Int) (xs : List IntA2) (vxs : Value) (rod d : Int) (w : World) (zu : In64 u) (zl : In64 l) (hGxs : ∀ y ∈ xs, GIntA2 y) (hsxs : SR w 2 vxs xs.length (flat encIntA2 xs)) (zrod : In64 rod) (zd : In64 d) : Calls Try.prog 10 ([.agg (List.toArray (α := Value) [.int .i64 u, .int .i64 l, vxs]), .int .i64 rod, .int .i64 d]).toArray w (fun e w' => e = .returned (.bool (addDB u l xs rod d)) ∧ Ext w w') := by
  obtain ⟨axs, capxs, rfl, hcapxs, hmaxxs⟩ := hsxs.slice
  have hlenxs := hsxs.len_le
  refine calls_ct Try.func10 Try.ntmps10 rfl rfl ?_
  refine ct_seq ?_
  refine ct_reg ?_
  refine rl_box rfl rfl (fun N1 => ?_)
  refine rl_val gw_none (ov_assign rfl) rfl ?_
  refine rl_nil ?_
  refine at_then ?_
  refine ct_seq ?_
  refine ct_seq ?_
  refine ct_reg ?_
  first | refine rl_val gw_none (ov_loadall 0 ag28 rfl rfl rfl) rfl ?_ | refine rl_val gw_none (ov_loadp 0 ag28 rfl rfl (vs := [_, _, _]) rfl rfl) rfl ?_ | refine rl_val gw_none (ov_loada 0 ag28 rfl rfl rfl (by assumption)) rfl ?_
  refine rl_callv gw_none goes15 rfl (fun w1 hp => l2Standard_c u l xs _ _ zu zl hGxs (hsxs.ext hp.ext0)) rfl ?_
  refine rl_val gw_none (ov_not rfl) rfl ?_
  refine rl_val gw_none (ov_move rfl) rfl ?_
  refine rl_split (t := 10) rfl (fun g1 => ?_) (fun g1 => ?_)
  ·
    have g1' := g1
    try simp only [Bool.not_eq_true', Bool.not_eq_false', Bool.not_not, decide_eq_true_eq, decide_eq_false_iff_not, beq_iff_eq, beq_eq_false_iff_ne, bne_iff_ne, bne_eq_false_iff_eq, Bool.and_eq_true, Bool.or_eq_true, Bool.and_eq_false_iff, Bool.or_eq_false_iff, inB] at g1'
    refine rl_skip (gw_not rfl rfl g1) rfl ?_
    refine rl_skip (gw_not rfl rfl g1) rfl ?_
    refine rl_skip (gw_not rfl rfl g1) rfl ?_
    refine rl_skip (gw_not rfl rfl g1) rfl ?_
    refine rl_skip (gw_not rfl rfl g1) rfl ?_
    refine rl_skip (gw_not rfl rfl g1) rfl ?_
    refine rl_skip (gw_not rfl rfl g1) rfl ?_
    refine rl_val gw_none (ov_pick_t rfl g1 rfl) rfl ?_
    refine rl_val gw_none (ov_move rfl) rfl ?_
    refine rl_skip (gw_not rfl rfl rfl) rfl ?_
    refine rl_skip (gw_not rfl rfl rfl) rfl ?_
    refine rl_skip (gw_not rfl rfl rfl) rfl ?_
    refine rl_val gw_none (ov_pick_t rfl rfl rfl) rfl ?_
    refine rl_nil ?_
    refine at_then ?_
    refine ct_true rfl rfl ?_
    refine ct_seq ?_
    refine ct_reg ?_
    refine rl_val gw_none (ov_assign rfl) rfl ?_
    refine rl_nil ?_
    refine at_then ?_
    refine ct_ret ?_
    refine at_then_ret ?_
    refine at_ret1 Try.results10 (ro_tmp rfl) (fun w1 hp => ?_)
    refine ⟨?_, hp.ext0⟩
    first | (rw [addDB_bad (.inl (by simpa using g1))]; done) | (rw [addDB_bad (.inr (.inl (by simpa using g2)))]; done) | (rw [addDB_bad (.inr (.inr (by simpa using h1)))]; done) | (unfold addDB plc; rw [hg, hrb, hdb]; first | rfl | (simp; done))
  ·
    have hg : goodB u l xs = true := by simpa using g1
    have hf := goodB_f hg
    have h8 := (frameB_ul hf).2.2.2
    have hl1 := (frameB_ul hf).2.2.1
    have hnm := goodB_num hg
    have hpb := p10_bd h8
    refine rl_val (gw_some rfl rfl g1) (ov_move rfl) rfl ?_
    refine rl_val (gw_some rfl rfl g1) (ov_field fo28_2 rfl) rfl ?_
    first | refine rl_val (gw_some rfl rfl g1) (ov_load 0 sc22 rfl rfl rfl) rfl ?_ | refine rl_val (gw_some rfl rfl g1) (ov_load 0 sc22 rfl rfl (by assumption)) rfl ?_
    refine rl_val (gw_some rfl rfl g1) (ov_len Try.underlying22 rfl) rfl ?_
    refine rl_val (gw_some rfl rfl g1) (ov_sub rfl rfl (by omega)) rfl ?_
    refine rl_callv (gw_some rfl rfl g1) goes16 rfl (fun w1 hp => l1In_c _ _ _ _) rfl ?_
    refine rl_val (gw_some rfl rfl g1) (ov_not rfl) rfl ?_
    refine rl_val gw_none (ov_pick_f rfl g1 rfl) rfl ?_
    refine rl_val gw_none (ov_move rfl) rfl ?_
    refine rl_split (t := 19) rfl (fun g2 => ?_) (fun g2 => ?_)
    ·
      have g2' := g2
      try simp only [Bool.not_eq_true', Bool.not_eq_false', Bool.not_not, decide_eq_true_eq, decide_eq_false_iff_not, beq_iff_eq, beq_eq_false_iff_ne, bne_iff_ne, bne_eq_false_iff_eq, Bool.and_eq_true, Bool.or_eq_true, Bool.and_eq_false_iff, Bool.or_eq_false_iff, inB] at g2'
      refine rl_skip (gw_not rfl rfl g2) rfl ?_
      refine rl_skip (gw_not rfl rfl g2) rfl ?_
      refine rl_skip (gw_not rfl rfl g2) rfl ?_
      refine rl_val gw_none (ov_pick_t rfl g2 rfl) rfl ?_
      refine rl_nil ?_
      refine at_then ?_
      refine ct_true rfl rfl ?_
      refine ct_seq ?_
      refine ct_reg ?_
      refine rl_val gw_none (ov_assign rfl) rfl ?_
      refine rl_nil ?_
      refine at_then ?_
      refine ct_ret ?_
      refine at_then_ret ?_
      refine at_ret1 Try.results10 (ro_tmp rfl) (fun w1 hp => ?_)
      refine ⟨?_, hp.ext0⟩
      first | (rw [addDB_bad (.inl (by simpa using g1))]; done) | (rw [addDB_bad (.inr (.inl (by simpa using g2)))]; done) | (rw [addDB_bad (.inr (.inr (by simpa using h1)))]; done) | (unfold addDB plc; rw [hg, hrb, hdb]; first | rfl | (simp; done))
    ·
      have hrb : inB rod 0 ((xs.length : Int) - 1) = true := by simpa using g2
      have hrr := hrb
      simp only [inB, Bool.and_eq_true, decide_eq_true_eq] at hrr
      refine rl_val (gw_some rfl rfl g2) (ov_move rfl) rfl ?_
      refine rl_callv (gw_some rfl rfl g2) goes16 rfl (fun w1 hp => l1In_c _ _ _ _) rfl ?_
      refine rl_val (gw_some rfl rfl g2) (ov_not rfl) rfl ?_
      refine rl_val gw_none (ov_pick_f rfl g2 rfl) rfl ?_
      refine rl_nil ?_
      refine at_then ?_
      first | refine ct_dec rfl (fun h1 => ?_) (fun h1 => ?_) | refine ct_ndec rfl (fun h1 => ?_) (fun h1 => ?_) | refine ct_eq rfl (fun h1 => ?_) (fun h1 => ?_) | refine ct_ne rfl (fun h1 => ?_) (fun h1 => ?_) | refine ct_not rfl (fun h1 => ?_) (fun h1 => ?_) | refine ct_cond rfl (fun h1 => ?_) (fun h1 => ?_)
      ·
        refine ct_seq ?_
        refine ct_reg ?_
        refine rl_val gw_none (ov_assign rfl) rfl ?_
        refine rl_nil ?_
        refine at_then ?_
        refine ct_ret ?_
        refine at_then_ret ?_
        refine at_ret1 Try.results10 (ro_tmp rfl) (fun w1 hp => ?_)
        refine ⟨?_, hp.ext0⟩
        first | (rw [addDB_bad (.inl (by simpa using g1))]; done) | (rw [addDB_bad (.inr (.inl (by simpa using g2)))]; done) | (rw [addDB_bad (.inr (.inr (by simpa using h1)))]; done) | (unfold addDB plc; rw [hg, hrb, hdb]; first | rfl | (simp; done))
      ·
        have hdb : inB d 0 9 = true := by simpa using h1
        have hdr := hdb
        simp only [inB, Bool.and_eq_true, decide_eq_true_eq] at hdr
        have hpl := plc_bd (rod := rod) h8 hdr
        unfold plc at hpl
        refine ct_skip ?_
        refine at_then ?_
        refine ct_seq ?_
        refine ct_dr 18 (by kernel_rfl) (by kernel_rfl) ?_
        first | refine ql_val gw_none (ov_loadall 0 ag28 rfl rfl rfl) rfl ?_ | refine ql_val gw_none (ov_loadp 0 ag28 rfl rfl (vs := [_, _, _]) rfl rfl) rfl ?_ | refine ql_val gw_none (ov_loada 0 ag28 rfl rfl rfl (by assumption)) rfl ?_
        refine ql_callv gw_none goes17 rfl (fun w1 hp => l2Number_c u l xs _ _ zu zl hGxs (hsxs.ext hp.ext0) hf) rfl ?_
        refine ql_val gw_none (ov_move rfl) rfl ?_
        refine ql_val gw_none (ov_field fo28_2 rfl) rfl ?_
        first | refine ql_val gw_none (ov_load 0 sc22 rfl rfl rfl) rfl ?_ | refine ql_val gw_none (ov_load 0 sc22 rfl rfl (by assumption)) rfl ?_
        refine ql_val gw_none (ov_len Try.underlying22 rfl) rfl ?_
        refine ql_val gw_none (ov_sub rfl rfl (by omega)) rfl ?_
        refine ql_val gw_none (ov_move rfl) rfl ?_
        refine ql_val gw_none (ov_sub rfl rfl (by omega)) rfl ?_
        refine ql_callv gw_none goes18 rfl (fun w1 hp => l2Power_c _ (xs.length - 1 - rod.toNat) _ (by omega) (by omega)) rfl ?_
        refine ql_val gw_none (ov_mul rfl rfl (by omega)) rfl ?_
        refine ql_val gw_none (ov_add rfl rfl (by omega)) rfl ?_
        refine ql_val gw_none (ov_field fo28_2 rfl) rfl ?_
        first | refine ql_val gw_none (ov_load 0 sc22 rfl rfl rfl) rfl ?_ | refine ql_val gw_none (ov_load 0 sc22 rfl rfl (by assumption)) rfl ?_
        refine ql_val gw_none (ov_len Try.underlying22 rfl) rfl ?_
        refine ql_callv gw_none goes18 rfl (fun w1 hp => l2Power_c _ xs.length _ rfl (by omega)) rfl ?_
        refine ql_val gw_none (ov_lss rfl rfl) rfl ?_
        refine ql_val gw_none (ov_assign rfl) rfl ?_
        refine ql_nil ?_
        refine rl_nil ?_
        refine at_then ?_
        refine ct_ret ?_
        refine at_ret1 Try.results10 (ro_tmp rfl) (fun w1 hp => ?_)
        refine ⟨?_, hp.ext0⟩
        first | (rw [addDB_bad (.inl (by simpa using g1))]; done) | (rw [addDB_bad (.inr (.inl (by simpa using g2)))]; done) | (rw [addDB_bad (.inr (.inr (by simpa using h1)))]; done) | (unfold addDB plc; rw [hg, hrb, hdb]; first | rfl | (simp; done))
end Go.Proofs.Ytbmeoidbplecaaa
