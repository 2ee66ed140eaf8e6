import Derived.Test.YtnnhkpecgchgiaaTb
import Derived.Test.YtnnhkpecgchgiaaAa
import Derived.Test.YtnnhkpecgchgiaaKo
import Derived.KernelRfl
set_option linter.unusedVariables false
set_option linter.unusedSimpArgs false
namespace Go.Proofs.Ytnnhkpecgchgiaa
open Go Go.RowKit K
theorem l6Can_c (u : Int) (l : Int) (xs : List IntA2) (vxs : Value) (n : Int) (w : World) (zu : In64 u) (zl : In64 l) (hGxs : ∀ y ∈ xs, GIntA2 y) (hsxs : SR w 2 vxs xs.length (flat encIntA2 xs)) (zn : In64 n) : Calls Try.prog 92 ([.agg (List.toArray (α := Value) [.int .i64 u, .int .i64 l, vxs]), .int .i64 n]).toArray w (fun e w' => e = .returned (.bool (addNB u l xs n)) ∧ Ext w w') := by
  obtain ⟨axs, capxs, rfl, hcapxs, hmaxxs⟩ := hsxs.slice
  have hlenxs := hsxs.len_le
  refine calls_ct Try.func92 Try.ntmps92 rfl rfl ?_
  refine ct_seq ?_
  refine ct_reg ?_
  refine rl_box rfl rfl (fun N1 => ?_)
  refine rl_val gw_none (ov_assign rfl) rfl ?_
  refine rl_nil ?_
  refine at_then ?_
  refine ct_seq ?_
  refine ct_dr 23 (by kernel_rfl) (by kernel_rfl) ?_
  first | refine ql_val gw_none (ov_loadall 0 ag26 rfl rfl rfl) rfl ?_ | refine ql_val gw_none (ov_loadp 0 ag26 rfl rfl (vs := [_, _, _]) rfl rfl) rfl ?_ | refine ql_val gw_none (ov_loada 0 ag26 rfl rfl rfl (by assumption)) rfl ?_
  refine ql_callv gw_none goes74 rfl (fun w1 hp => l2Standard_c u l xs _ _ zu zl hGxs (hsxs.ext hp.ext0)) rfl ?_
  refine ql_val gw_none (ov_move rfl) rfl ?_
  refine ql_split (t := 7) rfl (fun g1 => ?_) (fun g1 => ?_)
  ·
    have hg : goodB u l xs = true := by simpa using g1
    have hf := goodB_f hg
    have h8 := (frameB_ul hf).2.2.2
    have hl1 := (frameB_ul hf).2.2.1
    have hnm := goodB_num hg
    have hpb := p10_bd h8
    refine ql_val (gw_some rfl rfl g1) (ov_move rfl) rfl ?_
    refine ql_val (gw_some rfl rfl g1) (ov_field fo26_2 rfl) rfl ?_
    first | refine ql_val (gw_some rfl rfl g1) (ov_load 0 sc22 rfl rfl rfl) rfl ?_ | refine ql_val (gw_some rfl rfl g1) (ov_load 0 sc22 rfl rfl (by assumption)) rfl ?_
    refine ql_val (gw_some rfl rfl g1) (ov_len Try.underlying22 rfl) rfl ?_
    refine ql_callv (gw_some rfl rfl g1) goes107 rfl (fun w1 hp => l2Power_c _ xs.length _ rfl (by omega)) rfl ?_
    refine ql_val (gw_some rfl rfl g1) (ov_sub rfl rfl (by omega)) rfl ?_
    refine ql_callv (gw_some rfl rfl g1) goes116 rfl (fun w1 hp => l1In_c _ _ _ _) rfl ?_
    refine ql_val gw_none (ov_pick_t rfl g1 rfl) rfl ?_
    refine ql_val gw_none (ov_move rfl) rfl ?_
    refine ql_split (t := 16) rfl (fun g2 => ?_) (fun g2 => ?_)
    ·
      have hnr := g2
      simp only [inB, Bool.and_eq_true, decide_eq_true_eq] at hnr
      first | refine ql_val (gw_some rfl rfl g2) (ov_loadall 0 ag26 rfl rfl rfl) rfl ?_ | refine ql_val (gw_some rfl rfl g2) (ov_loadp 0 ag26 rfl rfl (vs := [_, _, _]) rfl rfl) rfl ?_ | refine ql_val (gw_some rfl rfl g2) (ov_loada 0 ag26 rfl rfl rfl (by assumption)) rfl ?_
      refine ql_callv (gw_some rfl rfl g2) goes127 rfl (fun w1 hp => l2Number_c u l xs _ _ zu zl hGxs (hsxs.ext hp.ext0) hf) rfl ?_
      refine ql_val (gw_some rfl rfl g2) (ov_move rfl) rfl ?_
      refine ql_val (gw_some rfl rfl g2) (ov_add rfl rfl (by omega)) rfl ?_
      refine ql_val (gw_some rfl rfl g2) (ov_field fo26_2 rfl) rfl ?_
      first | refine ql_val (gw_some rfl rfl g2) (ov_load 0 sc22 rfl rfl rfl) rfl ?_ | refine ql_val (gw_some rfl rfl g2) (ov_load 0 sc22 rfl rfl (by assumption)) rfl ?_
      refine ql_val (gw_some rfl rfl g2) (ov_len Try.underlying22 rfl) rfl ?_
      refine ql_callv (gw_some rfl rfl g2) goes107 rfl (fun w1 hp => l2Power_c _ xs.length _ rfl (by omega)) rfl ?_
      refine ql_val (gw_some rfl rfl g2) (ov_lss rfl rfl) rfl ?_
      refine ql_val gw_none (ov_pick_t rfl g2 rfl) rfl ?_
      refine ql_val gw_none (ov_assign rfl) rfl ?_
      refine ql_nil ?_
      refine rl_nil ?_
      refine at_then ?_
      refine ct_ret ?_
      refine at_ret1 Try.results92 (ro_tmp rfl) (fun w1 hp => ?_)
      refine ⟨?_, hp.ext0⟩
      first | (rw [addNB_bad (by simpa using g1)]; done) | (unfold addNB; rw [hg, g2]; first | rfl | (simp; done))
    ·
      have g2' := g2
      try simp only [Bool.not_eq_true', Bool.not_eq_false', Bool.not_not, decide_eq_true_eq, decide_eq_false_iff_not, beq_iff_eq, beq_eq_false_iff_ne, bne_iff_ne, bne_eq_false_iff_eq, Bool.and_eq_true, Bool.or_eq_true, Bool.and_eq_false_iff, Bool.or_eq_false_iff, inB] at g2'
      refine ql_skip (gw_not rfl rfl g2) rfl ?_
      refine ql_skip (gw_not rfl rfl g2) rfl ?_
      refine ql_skip (gw_not rfl rfl g2) rfl ?_
      refine ql_skip (gw_not rfl rfl g2) rfl ?_
      refine ql_skip (gw_not rfl rfl g2) rfl ?_
      refine ql_skip (gw_not rfl rfl g2) rfl ?_
      refine ql_skip (gw_not rfl rfl g2) rfl ?_
      refine ql_skip (gw_not rfl rfl g2) rfl ?_
      refine ql_skip (gw_not rfl rfl g2) rfl ?_
      refine ql_val gw_none (ov_pick_f rfl g2 rfl) rfl ?_
      refine ql_val gw_none (ov_assign rfl) rfl ?_
      refine ql_nil ?_
      refine rl_nil ?_
      refine at_then ?_
      refine ct_ret ?_
      refine at_ret1 Try.results92 (ro_tmp rfl) (fun w1 hp => ?_)
      refine ⟨?_, hp.ext0⟩
      first | (rw [addNB_bad (by simpa using g1)]; done) | (unfold addNB; rw [hg, g2]; first | rfl | (simp; done))
  ·
    have g1' := g1
    try simp only [Bool.not_eq_true', Bool.not_eq_false', Bool.not_not, decide_eq_true_eq, decide_eq_false_iff_not, beq_iff_eq, beq_eq_false_iff_ne, bne_iff_ne, bne_eq_false_iff_eq, Bool.and_eq_true, Bool.or_eq_true, Bool.and_eq_false_iff, Bool.or_eq_false_iff, inB] at g1'
    refine ql_skip (gw_not rfl rfl g1) rfl ?_
    refine ql_skip (gw_not rfl rfl g1) rfl ?_
    refine ql_skip (gw_not rfl rfl g1) rfl ?_
    refine ql_skip (gw_not rfl rfl g1) rfl ?_
    refine ql_skip (gw_not rfl rfl g1) rfl ?_
    refine ql_skip (gw_not rfl rfl g1) rfl ?_
    refine ql_skip (gw_not rfl rfl g1) rfl ?_
    refine ql_val gw_none (ov_pick_f rfl g1 rfl) rfl ?_
    refine ql_val gw_none (ov_move rfl) rfl ?_
    refine ql_skip (gw_not rfl rfl rfl) rfl ?_
    refine ql_skip (gw_not rfl rfl rfl) rfl ?_
    refine ql_skip (gw_not rfl rfl rfl) rfl ?_
    refine ql_skip (gw_not rfl rfl rfl) rfl ?_
    refine ql_skip (gw_not rfl rfl rfl) rfl ?_
    refine ql_skip (gw_not rfl rfl rfl) rfl ?_
    refine ql_skip (gw_not rfl rfl rfl) rfl ?_
    refine ql_skip (gw_not rfl rfl rfl) rfl ?_
    refine ql_skip (gw_not rfl rfl rfl) rfl ?_
    refine ql_val gw_none (ov_pick_f rfl rfl rfl) rfl ?_
    refine ql_val gw_none (ov_assign rfl) rfl ?_
    refine ql_nil ?_
    refine rl_nil ?_
    refine at_then ?_
    refine ct_ret ?_
    refine at_ret1 Try.results92 (ro_tmp rfl) (fun w1 hp => ?_)
    refine ⟨?_, hp.ext0⟩
    first | (rw [addNB_bad (by simpa using g1)]; done) | (unfold addNB; rw [hg, g2]; first | rfl | (simp; done))

theorem l8Can_c (u : Int) (l : Int) (xs : List IntA2) (vxs : Value) (n : Int) (w : World) (zu : In64 u) (zl : In64 l) (hGxs : ∀ y ∈ xs, GIntA2 y) (hsxs : SR w 2 vxs xs.length (flat encIntA2 xs)) (zn : In64 n) : Calls Try.prog 89 ([.agg (List.toArray (α := Value) [.int .i64 u, .int .i64 l, vxs]), .int .i64 n]).toArray w (fun e w' => e = .returned (.bool (takeNB u l xs n)) ∧ Ext w w') := by
  obtain ⟨axs, capxs, rfl, hcapxs, hmaxxs⟩ := hsxs.slice
  have hlenxs := hsxs.len_le
  refine calls_ct Try.func89 Try.ntmps89 rfl rfl ?_
  refine ct_seq ?_
  refine ct_reg ?_
  refine rl_box rfl rfl (fun N1 => ?_)
  refine rl_val gw_none (ov_assign rfl) rfl ?_
  refine rl_nil ?_
  refine at_then ?_
  refine ct_seq ?_
  refine ct_reg ?_
  first | refine rl_val gw_none (ov_loadall 0 ag26 rfl rfl rfl) rfl ?_ | refine rl_val gw_none (ov_loadp 0 ag26 rfl rfl (vs := [_, _, _]) rfl rfl) rfl ?_ | refine rl_val gw_none (ov_loada 0 ag26 rfl rfl rfl (by assumption)) rfl ?_
  refine rl_callv gw_none goes74 rfl (fun w1 hp => l2Standard_c u l xs _ _ zu zl hGxs (hsxs.ext hp.ext0)) rfl ?_
  refine rl_val gw_none (ov_move rfl) rfl ?_
  refine rl_split (t := 7) rfl (fun g1 => ?_) (fun g1 => ?_)
  ·
    have hg : goodB u l xs = true := by simpa using g1
    have hf := goodB_f hg
    have h8 := (frameB_ul hf).2.2.2
    have hl1 := (frameB_ul hf).2.2.1
    have hnm := goodB_num hg
    have hpb := p10_bd h8
    refine rl_val (gw_some rfl rfl g1) (ov_move rfl) rfl ?_
    first | refine rl_val (gw_some rfl rfl g1) (ov_loadall 0 ag26 rfl rfl rfl) rfl ?_ | refine rl_val (gw_some rfl rfl g1) (ov_loadp 0 ag26 rfl rfl (vs := [_, _, _]) rfl rfl) rfl ?_ | refine rl_val (gw_some rfl rfl g1) (ov_loada 0 ag26 rfl rfl rfl (by assumption)) rfl ?_
    refine rl_callv (gw_some rfl rfl g1) goes127 rfl (fun w1 hp => l2Number_c u l xs _ _ zu zl hGxs (hsxs.ext hp.ext0) hf) rfl ?_
    refine rl_callv (gw_some rfl rfl g1) goes116 rfl (fun w1 hp => l1In_c _ _ _ _) rfl ?_
    refine rl_val gw_none (ov_pick_t rfl g1 rfl) rfl ?_
    refine rl_val gw_none (ov_assign rfl) rfl ?_
    refine rl_nil ?_
    refine at_then ?_
    refine ct_ret ?_
    refine at_ret1 Try.results89 (ro_tmp rfl) (fun w1 hp => ?_)
    refine ⟨?_, hp.ext0⟩
    first | (rw [takeNB_bad (by simpa using g1)]; done) | (unfold takeNB; rw [hg]; first | rfl | (simp; done))
  ·
    have g1' := g1
    try simp only [Bool.not_eq_true', Bool.not_eq_false', Bool.not_not, decide_eq_true_eq, decide_eq_false_iff_not, beq_iff_eq, beq_eq_false_iff_ne, bne_iff_ne, bne_eq_false_iff_eq, Bool.and_eq_true, Bool.or_eq_true, Bool.and_eq_false_iff, Bool.or_eq_false_iff, inB] at g1'
    refine rl_skip (gw_not rfl rfl g1) rfl ?_
    refine rl_skip (gw_not rfl rfl g1) rfl ?_
    refine rl_skip (gw_not rfl rfl g1) rfl ?_
    refine rl_skip (gw_not rfl rfl g1) rfl ?_
    refine rl_val gw_none (ov_pick_f rfl g1 rfl) rfl ?_
    refine rl_val gw_none (ov_assign rfl) rfl ?_
    refine rl_nil ?_
    refine at_then ?_
    refine ct_ret ?_
    refine at_ret1 Try.results89 (ro_tmp rfl) (fun w1 hp => ?_)
    refine ⟨?_, hp.ext0⟩
    first | (rw [takeNB_bad (by simpa using g1)]; done) | (unfold takeNB; rw [hg]; first | rfl | (simp; done))

theorem l6CanDigit_c (u : Int) (l : Int) (xs : List IntA2) (vxs : Value) (rod d : Int) (w : World) (zu : In64 u) (zl : In64 l) (hGxs : ∀ y ∈ xs, GIntA2 y) (hsxs : SR w 2 vxs xs.length (flat encIntA2 xs)) (zrod : In64 rod) (zd : In64 d) : Calls Try.prog 97 ([.agg (List.toArray (α := Value) [.int .i64 u, .int .i64 l, vxs]), .int .i64 rod, .int .i64 d]).toArray w (fun e w' => e = .returned (.bool (addDB u l xs rod d)) ∧ Ext w w') := by
  obtain ⟨axs, capxs, rfl, hcapxs, hmaxxs⟩ := hsxs.slice
  have hlenxs := hsxs.len_le
  refine calls_ct Try.func97 Try.ntmps97 rfl rfl ?_
  refine ct_seq ?_
  refine ct_reg ?_
  refine rl_box rfl rfl (fun N1 => ?_)
  refine rl_val gw_none (ov_assign rfl) rfl ?_
  refine rl_nil ?_
  refine at_then ?_
  refine ct_seq ?_
  refine ct_seq ?_
  refine ct_reg ?_
  first | refine rl_val gw_none (ov_loadall 0 ag26 rfl rfl rfl) rfl ?_ | refine rl_val gw_none (ov_loadp 0 ag26 rfl rfl (vs := [_, _, _]) rfl rfl) rfl ?_ | refine rl_val gw_none (ov_loada 0 ag26 rfl rfl rfl (by assumption)) rfl ?_
  refine rl_callv gw_none goes74 rfl (fun w1 hp => l2Standard_c u l xs _ _ zu zl hGxs (hsxs.ext hp.ext0)) rfl ?_
  refine rl_val gw_none (ov_not rfl) rfl ?_
  refine rl_val gw_none (ov_move rfl) rfl ?_
  refine rl_split (t := 10) rfl (fun g1 => ?_) (fun g1 => ?_)
  ·
    have g1' := g1
    try simp only [Bool.not_eq_true', Bool.not_eq_false', Bool.not_not, decide_eq_true_eq, decide_eq_false_iff_not, beq_iff_eq, beq_eq_false_iff_ne, bne_iff_ne, bne_eq_false_iff_eq, Bool.and_eq_true, Bool.or_eq_true, Bool.and_eq_false_iff, Bool.or_eq_false_iff, inB] at g1'
    refine rl_skip (gw_not rfl rfl g1) rfl ?_
    refine rl_skip (gw_not rfl rfl g1) rfl ?_
    refine rl_skip (gw_not rfl rfl g1) rfl ?_
    refine rl_skip (gw_not rfl rfl g1) rfl ?_
    refine rl_skip (gw_not rfl rfl g1) rfl ?_
    refine rl_skip (gw_not rfl rfl g1) rfl ?_
    refine rl_skip (gw_not rfl rfl g1) rfl ?_
    refine rl_val gw_none (ov_pick_t rfl g1 rfl) rfl ?_
    refine rl_val gw_none (ov_move rfl) rfl ?_
    refine rl_skip (gw_not rfl rfl rfl) rfl ?_
    refine rl_skip (gw_not rfl rfl rfl) rfl ?_
    refine rl_skip (gw_not rfl rfl rfl) rfl ?_
    refine rl_val gw_none (ov_pick_t rfl rfl rfl) rfl ?_
    refine rl_nil ?_
    refine at_then ?_
    refine ct_true rfl rfl ?_
    refine ct_seq ?_
    refine ct_reg ?_
    refine rl_val gw_none (ov_assign rfl) rfl ?_
    refine rl_nil ?_
    refine at_then ?_
    refine ct_ret ?_
    refine at_then_ret ?_
    refine at_ret1 Try.results97 (ro_tmp rfl) (fun w1 hp => ?_)
    refine ⟨?_, hp.ext0⟩
    first | (rw [addDB_bad (.inl (by simpa using g1))]; done) | (rw [addDB_bad (.inr (.inl (by simpa using g2)))]; done) | (rw [addDB_bad (.inr (.inr (by simpa using h1)))]; done) | (unfold addDB plc; rw [hg, hrb, hdb]; first | rfl | (simp; done))
  ·
    have hg : goodB u l xs = true := by simpa using g1
    have hf := goodB_f hg
    have h8 := (frameB_ul hf).2.2.2
    have hl1 := (frameB_ul hf).2.2.1
    have hnm := goodB_num hg
    have hpb := p10_bd h8
    refine rl_val (gw_some rfl rfl g1) (ov_move rfl) rfl ?_
    refine rl_val (gw_some rfl rfl g1) (ov_field fo26_2 rfl) rfl ?_
    first | refine rl_val (gw_some rfl rfl g1) (ov_load 0 sc22 rfl rfl rfl) rfl ?_ | refine rl_val (gw_some rfl rfl g1) (ov_load 0 sc22 rfl rfl (by assumption)) rfl ?_
    refine rl_val (gw_some rfl rfl g1) (ov_len Try.underlying22 rfl) rfl ?_
    refine rl_val (gw_some rfl rfl g1) (ov_sub rfl rfl (by omega)) rfl ?_
    refine rl_callv (gw_some rfl rfl g1) goes116 rfl (fun w1 hp => l1In_c _ _ _ _) rfl ?_
    refine rl_val (gw_some rfl rfl g1) (ov_not rfl) rfl ?_
    refine rl_val gw_none (ov_pick_f rfl g1 rfl) rfl ?_
    refine rl_val gw_none (ov_move rfl) rfl ?_
    refine rl_split (t := 19) rfl (fun g2 => ?_) (fun g2 => ?_)
    ·
      have g2' := g2
      try simp only [Bool.not_eq_true', Bool.not_eq_false', Bool.not_not, decide_eq_true_eq, decide_eq_false_iff_not, beq_iff_eq, beq_eq_false_iff_ne, bne_iff_ne, bne_eq_false_iff_eq, Bool.and_eq_true, Bool.or_eq_true, Bool.and_eq_false_iff, Bool.or_eq_false_iff, inB] at g2'
      refine rl_skip (gw_not rfl rfl g2) rfl ?_
      refine rl_skip (gw_not rfl rfl g2) rfl ?_
      refine rl_skip (gw_not rfl rfl g2) rfl ?_
      refine rl_val gw_none (ov_pick_t rfl g2 rfl) rfl ?_
      refine rl_nil ?_
      refine at_then ?_
      refine ct_true rfl rfl ?_
      refine ct_seq ?_
      refine ct_reg ?_
      refine rl_val gw_none (ov_assign rfl) rfl ?_
      refine rl_nil ?_
      refine at_then ?_
      refine ct_ret ?_
      refine at_then_ret ?_
      refine at_ret1 Try.results97 (ro_tmp rfl) (fun w1 hp => ?_)
      refine ⟨?_, hp.ext0⟩
      first | (rw [addDB_bad (.inl (by simpa using g1))]; done) | (rw [addDB_bad (.inr (.inl (by simpa using g2)))]; done) | (rw [addDB_bad (.inr (.inr (by simpa using h1)))]; done) | (unfold addDB plc; rw [hg, hrb, hdb]; first | rfl | (simp; done))
    ·
      have hrb : inB rod 0 ((xs.length : Int) - 1) = true := by simpa using g2
      have hrr := hrb
      simp only [inB, Bool.and_eq_true, decide_eq_true_eq] at hrr
      refine rl_val (gw_some rfl rfl g2) (ov_move rfl) rfl ?_
      refine rl_callv (gw_some rfl rfl g2) goes116 rfl (fun w1 hp => l1In_c _ _ _ _) rfl ?_
      refine rl_val (gw_some rfl rfl g2) (ov_not rfl) rfl ?_
      refine rl_val gw_none (ov_pick_f rfl g2 rfl) rfl ?_
      refine rl_nil ?_
      refine at_then ?_
      first | refine ct_dec rfl (fun h1 => ?_) (fun h1 => ?_) | refine ct_ndec rfl (fun h1 => ?_) (fun h1 => ?_) | refine ct_eq rfl (fun h1 => ?_) (fun h1 => ?_) | refine ct_ne rfl (fun h1 => ?_) (fun h1 => ?_) | refine ct_not rfl (fun h1 => ?_) (fun h1 => ?_) | refine ct_cond rfl (fun h1 => ?_) (fun h1 => ?_)
      ·
        refine ct_seq ?_
        refine ct_reg ?_
        refine rl_val gw_none (ov_assign rfl) rfl ?_
        refine rl_nil ?_
        refine at_then ?_
        refine ct_ret ?_
        refine at_then_ret ?_
        refine at_ret1 Try.results97 (ro_tmp rfl) (fun w1 hp => ?_)
        refine ⟨?_, hp.ext0⟩
        first | (rw [addDB_bad (.inl (by simpa using g1))]; done) | (rw [addDB_bad (.inr (.inl (by simpa using g2)))]; done) | (rw [addDB_bad (.inr (.inr (by simpa using h1)))]; done) | (unfold addDB plc; rw [hg, hrb, hdb]; first | rfl | (simp; done))
      ·
        have hdb : inB d 0 9 = true := by simpa using h1
        have hdr := hdb
        simp only [inB, Bool.and_eq_true, decide_eq_true_eq] at hdr
        have hpl := plc_bd (rod := rod) h8 hdr
        unfold plc at hpl
        refine ct_skip ?_
        refine at_then ?_
        refine ct_seq ?_
        refine ct_dr 18 (by kernel_rfl) (by kernel_rfl) ?_
        first | refine ql_val gw_none (ov_loadall 0 ag26 rfl rfl rfl) rfl ?_ | refine ql_val gw_none (ov_loadp 0 ag26 rfl rfl (vs := [_, _, _]) rfl rfl) rfl ?_ | refine ql_val gw_none (ov_loada 0 ag26 rfl rfl rfl (by assumption)) rfl ?_
        refine ql_callv gw_none goes127 rfl (fun w1 hp => l2Number_c u l xs _ _ zu zl hGxs (hsxs.ext hp.ext0) hf) rfl ?_
        refine ql_val gw_none (ov_move rfl) rfl ?_
        refine ql_val gw_none (ov_field fo26_2 rfl) rfl ?_
        first | refine ql_val gw_none (ov_load 0 sc22 rfl rfl rfl) rfl ?_ | refine ql_val gw_none (ov_load 0 sc22 rfl rfl (by assumption)) rfl ?_
        refine ql_val gw_none (ov_len Try.underlying22 rfl) rfl ?_
        refine ql_val gw_none (ov_sub rfl rfl (by omega)) rfl ?_
        refine ql_val gw_none (ov_move rfl) rfl ?_
        refine ql_val gw_none (ov_sub rfl rfl (by omega)) rfl ?_
        refine ql_callv gw_none goes107 rfl (fun w1 hp => l2Power_c _ (xs.length - 1 - rod.toNat) _ (by omega) (by omega)) rfl ?_
        refine ql_val gw_none (ov_mul rfl rfl (by omega)) rfl ?_
        refine ql_val gw_none (ov_add rfl rfl (by omega)) rfl ?_
        refine ql_val gw_none (ov_field fo26_2 rfl) rfl ?_
        first | refine ql_val gw_none (ov_load 0 sc22 rfl rfl rfl) rfl ?_ | refine ql_val gw_none (ov_load 0 sc22 rfl rfl (by assumption)) rfl ?_
        refine ql_val gw_none (ov_len Try.underlying22 rfl) rfl ?_
        refine ql_callv gw_none goes107 rfl (fun w1 hp => l2Power_c _ xs.length _ rfl (by omega)) rfl ?_
        refine ql_val gw_none (ov_lss rfl rfl) rfl ?_
        refine ql_val gw_none (ov_assign rfl) rfl ?_
        refine ql_nil ?_
        refine rl_nil ?_
        refine at_then ?_
        refine ct_ret ?_
        refine at_ret1 Try.results97 (ro_tmp rfl) (fun w1 hp => ?_)
        refine ⟨?_, hp.ext0⟩
        first | (rw [addDB_bad (.inl (by simpa using g1))]; done) | (rw [addDB_bad (.inr (.inl (by simpa using g2)))]; done) | (rw [addDB_bad (.inr (.inr (by simpa using h1)))]; done) | (unfold addDB plc; rw [hg, hrb, hdb]; first | rfl | (simp; done))

theorem l8CanDigit_c (u : Int) (l : Int) (xs : List IntA2) (vxs : Value) (rod d : Int) (w : World) (zu : In64 u) (zl : In64 l) (hGxs : ∀ y ∈ xs, GIntA2 y) (hsxs : SR w 2 vxs xs.length (flat encIntA2 xs)) (zrod : In64 rod) (zd : In64 d) : Calls Try.prog 100 ([.agg (List.toArray (α := Value) [.int .i64 u, .int .i64 l, vxs]), .int .i64 rod, .int .i64 d]).toArray w (fun e w' => e = .returned (.bool (takeDB u l xs rod d)) ∧ Ext w w') := by
  obtain ⟨axs, capxs, rfl, hcapxs, hmaxxs⟩ := hsxs.slice
  have hlenxs := hsxs.len_le
  refine calls_ct Try.func100 Try.ntmps100 rfl rfl ?_
  refine ct_seq ?_
  refine ct_reg ?_
  refine rl_box rfl rfl (fun N1 => ?_)
  refine rl_val gw_none (ov_assign rfl) rfl ?_
  refine rl_nil ?_
  refine at_then ?_
  refine ct_seq ?_
  refine ct_seq ?_
  refine ct_reg ?_
  first | refine rl_val gw_none (ov_loadall 0 ag26 rfl rfl rfl) rfl ?_ | refine rl_val gw_none (ov_loadp 0 ag26 rfl rfl (vs := [_, _, _]) rfl rfl) rfl ?_ | refine rl_val gw_none (ov_loada 0 ag26 rfl rfl rfl (by assumption)) rfl ?_
  refine rl_callv gw_none goes74 rfl (fun w1 hp => l2Standard_c u l xs _ _ zu zl hGxs (hsxs.ext hp.ext0)) rfl ?_
  refine rl_val gw_none (ov_not rfl) rfl ?_
  refine rl_val gw_none (ov_move rfl) rfl ?_
  refine rl_split (t := 10) rfl (fun g1 => ?_) (fun g1 => ?_)
  ·
    have g1' := g1
    try simp only [Bool.not_eq_true', Bool.not_eq_false', Bool.not_not, decide_eq_true_eq, decide_eq_false_iff_not, beq_iff_eq, beq_eq_false_iff_ne, bne_iff_ne, bne_eq_false_iff_eq, Bool.and_eq_true, Bool.or_eq_true, Bool.and_eq_false_iff, Bool.or_eq_false_iff, inB] at g1'
    refine rl_skip (gw_not rfl rfl g1) rfl ?_
    refine rl_skip (gw_not rfl rfl g1) rfl ?_
    refine rl_skip (gw_not rfl rfl g1) rfl ?_
    refine rl_skip (gw_not rfl rfl g1) rfl ?_
    refine rl_skip (gw_not rfl rfl g1) rfl ?_
    refine rl_skip (gw_not rfl rfl g1) rfl ?_
    refine rl_skip (gw_not rfl rfl g1) rfl ?_
    refine rl_val gw_none (ov_pick_t rfl g1 rfl) rfl ?_
    refine rl_val gw_none (ov_move rfl) rfl ?_
    refine rl_skip (gw_not rfl rfl rfl) rfl ?_
    refine rl_skip (gw_not rfl rfl rfl) rfl ?_
    refine rl_skip (gw_not rfl rfl rfl) rfl ?_
    refine rl_val gw_none (ov_pick_t rfl rfl rfl) rfl ?_
    refine rl_nil ?_
    refine at_then ?_
    refine ct_true rfl rfl ?_
    refine ct_seq ?_
    refine ct_reg ?_
    refine rl_val gw_none (ov_assign rfl) rfl ?_
    refine rl_nil ?_
    refine at_then ?_
    refine ct_ret ?_
    refine at_then_ret ?_
    refine at_ret1 Try.results100 (ro_tmp rfl) (fun w1 hp => ?_)
    refine ⟨?_, hp.ext0⟩
    first | (rw [takeDB_bad (.inl (by simpa using g1))]; done) | (rw [takeDB_bad (.inr (.inl (by simpa using g2)))]; done) | (rw [takeDB_bad (.inr (.inr (by simpa using h1)))]; done) | (unfold takeDB plc; rw [hg, hrb, hdb]; first | rfl | (simp; done))
  ·
    have hg : goodB u l xs = true := by simpa using g1
    have hf := goodB_f hg
    have h8 := (frameB_ul hf).2.2.2
    have hl1 := (frameB_ul hf).2.2.1
    have hnm := goodB_num hg
    have hpb := p10_bd h8
    refine rl_val (gw_some rfl rfl g1) (ov_move rfl) rfl ?_
    refine rl_val (gw_some rfl rfl g1) (ov_field fo26_2 rfl) rfl ?_
    first | refine rl_val (gw_some rfl rfl g1) (ov_load 0 sc22 rfl rfl rfl) rfl ?_ | refine rl_val (gw_some rfl rfl g1) (ov_load 0 sc22 rfl rfl (by assumption)) rfl ?_
    refine rl_val (gw_some rfl rfl g1) (ov_len Try.underlying22 rfl) rfl ?_
    refine rl_val (gw_some rfl rfl g1) (ov_sub rfl rfl (by omega)) rfl ?_
    refine rl_callv (gw_some rfl rfl g1) goes116 rfl (fun w1 hp => l1In_c _ _ _ _) rfl ?_
    refine rl_val (gw_some rfl rfl g1) (ov_not rfl) rfl ?_
    refine rl_val gw_none (ov_pick_f rfl g1 rfl) rfl ?_
    refine rl_val gw_none (ov_move rfl) rfl ?_
    refine rl_split (t := 19) rfl (fun g2 => ?_) (fun g2 => ?_)
    ·
      have g2' := g2
      try simp only [Bool.not_eq_true', Bool.not_eq_false', Bool.not_not, decide_eq_true_eq, decide_eq_false_iff_not, beq_iff_eq, beq_eq_false_iff_ne, bne_iff_ne, bne_eq_false_iff_eq, Bool.and_eq_true, Bool.or_eq_true, Bool.and_eq_false_iff, Bool.or_eq_false_iff, inB] at g2'
      refine rl_skip (gw_not rfl rfl g2) rfl ?_
      refine rl_skip (gw_not rfl rfl g2) rfl ?_
      refine rl_skip (gw_not rfl rfl g2) rfl ?_
      refine rl_val gw_none (ov_pick_t rfl g2 rfl) rfl ?_
      refine rl_nil ?_
      refine at_then ?_
      refine ct_true rfl rfl ?_
      refine ct_seq ?_
      refine ct_reg ?_
      refine rl_val gw_none (ov_assign rfl) rfl ?_
      refine rl_nil ?_
      refine at_then ?_
      refine ct_ret ?_
      refine at_then_ret ?_
      refine at_ret1 Try.results100 (ro_tmp rfl) (fun w1 hp => ?_)
      refine ⟨?_, hp.ext0⟩
      first | (rw [takeDB_bad (.inl (by simpa using g1))]; done) | (rw [takeDB_bad (.inr (.inl (by simpa using g2)))]; done) | (rw [takeDB_bad (.inr (.inr (by simpa using h1)))]; done) | (unfold takeDB plc; rw [hg, hrb, hdb]; first | rfl | (simp; done))
    ·
      have hrb : inB rod 0 ((xs.length : Int) - 1) = true := by simpa using g2
      have hrr := hrb
      simp only [inB, Bool.and_eq_true, decide_eq_true_eq] at hrr
      refine rl_val (gw_some rfl rfl g2) (ov_move rfl) rfl ?_
      refine rl_callv (gw_some rfl rfl g2) goes116 rfl (fun w1 hp => l1In_c _ _ _ _) rfl ?_
      refine rl_val (gw_some rfl rfl g2) (ov_not rfl) rfl ?_
      refine rl_val gw_none (ov_pick_f rfl g2 rfl) rfl ?_
      refine rl_nil ?_
      refine at_then ?_
      first | refine ct_dec rfl (fun h1 => ?_) (fun h1 => ?_) | refine ct_ndec rfl (fun h1 => ?_) (fun h1 => ?_) | refine ct_eq rfl (fun h1 => ?_) (fun h1 => ?_) | refine ct_ne rfl (fun h1 => ?_) (fun h1 => ?_) | refine ct_not rfl (fun h1 => ?_) (fun h1 => ?_) | refine ct_cond rfl (fun h1 => ?_) (fun h1 => ?_)
      ·
        refine ct_seq ?_
        refine ct_reg ?_
        refine rl_val gw_none (ov_assign rfl) rfl ?_
        refine rl_nil ?_
        refine at_then ?_
        refine ct_ret ?_
        refine at_then_ret ?_
        refine at_ret1 Try.results100 (ro_tmp rfl) (fun w1 hp => ?_)
        refine ⟨?_, hp.ext0⟩
        first | (rw [takeDB_bad (.inl (by simpa using g1))]; done) | (rw [takeDB_bad (.inr (.inl (by simpa using g2)))]; done) | (rw [takeDB_bad (.inr (.inr (by simpa using h1)))]; done) | (unfold takeDB plc; rw [hg, hrb, hdb]; first | rfl | (simp; done))
      ·
        have hdb : inB d 0 9 = true := by simpa using h1
        have hdr := hdb
        simp only [inB, Bool.and_eq_true, decide_eq_true_eq] at hdr
        have hpl := plc_bd (rod := rod) h8 hdr
        unfold plc at hpl
        refine ct_skip ?_
        refine at_then ?_
        refine ct_seq ?_
        refine ct_dr 13 (by kernel_rfl) (by kernel_rfl) ?_
        refine ql_val gw_none (ov_move rfl) rfl ?_
        refine ql_val gw_none (ov_field fo26_2 rfl) rfl ?_
        first | refine ql_val gw_none (ov_load 0 sc22 rfl rfl rfl) rfl ?_ | refine ql_val gw_none (ov_load 0 sc22 rfl rfl (by assumption)) rfl ?_
        refine ql_val gw_none (ov_len Try.underlying22 rfl) rfl ?_
        refine ql_val gw_none (ov_sub rfl rfl (by omega)) rfl ?_
        refine ql_val gw_none (ov_move rfl) rfl ?_
        refine ql_val gw_none (ov_sub rfl rfl (by omega)) rfl ?_
        refine ql_callv gw_none goes107 rfl (fun w1 hp => l2Power_c _ (xs.length - 1 - rod.toNat) _ (by omega) (by omega)) rfl ?_
        refine ql_val gw_none (ov_mul rfl rfl (by omega)) rfl ?_
        first | refine ql_val gw_none (ov_loadall 0 ag26 rfl rfl rfl) rfl ?_ | refine ql_val gw_none (ov_loadp 0 ag26 rfl rfl (vs := [_, _, _]) rfl rfl) rfl ?_ | refine ql_val gw_none (ov_loada 0 ag26 rfl rfl rfl (by assumption)) rfl ?_
        refine ql_callv gw_none goes127 rfl (fun w1 hp => l2Number_c u l xs _ _ zu zl hGxs (hsxs.ext hp.ext0) hf) rfl ?_
        refine ql_val gw_none (ov_leq rfl rfl) rfl ?_
        refine ql_val gw_none (ov_assign rfl) rfl ?_
        refine ql_nil ?_
        refine rl_nil ?_
        refine at_then ?_
        refine ct_ret ?_
        refine at_ret1 Try.results100 (ro_tmp rfl) (fun w1 hp => ?_)
        refine ⟨?_, hp.ext0⟩
        first | (rw [takeDB_bad (.inl (by simpa using g1))]; done) | (rw [takeDB_bad (.inr (.inl (by simpa using g2)))]; done) | (rw [takeDB_bad (.inr (.inr (by simpa using h1)))]; done) | (unfold takeDB plc; rw [hg, hrb, hdb]; first | rfl | (simp; done))

theorem l6Turn_c (i f t : Int) (w : World) (hf : 0 ≤ f ∧ f ≤ 9) (ht : 0 ≤ t ∧ t ≤ 9) : Calls Try.prog 137 ([.int .i64 i, .int .i64 f, .int .i64 t]).toArray w (fun e w' => ∃ (i : List BeadMove × Nat × List Value) (bo : Option Nat), (Sl 3 bo i.1.length i.2.1 (flat encBeadMove i.1) i.2.2 ∧ i.1.length ≤ 2) ∧ e = .returned (sv bo i.1.length i.2.1) ∧ NewO w w' bo 128 (flat encBeadMove i.1 ++ i.2.2)) := by
  refine calls_ct Try.func137 Try.ntmps137 rfl rfl ?_
  refine ct_seq ?_
  refine ct_reg ?_
  refine rl_val gw_none (ov_assign rfl) rfl ?_
  refine rl_nil ?_
  refine at_then ?_
  refine ct_seq ?_
  refine ct_reg ?_
  refine rl_bslice Try.underlying86 ze128 sz128 rfl rfl rfl rfl rfl rfl (fun N1 => ?_)
  refine rl_val gw_none (ov_assign rfl) rfl ?_
  refine rl_nil ?_
  refine at_then ?_
  refine ct_seq ?_
  refine ct_seq ?_
  refine ct_reg ?_
  refine rl_val gw_none (ov_move rfl) rfl ?_
  refine rl_val gw_none (ov_quo rfl rfl (by omega) (by omega) (by omega)) rfl ?_
  refine rl_val gw_none (ov_move rfl) rfl ?_
  refine rl_val gw_none (ov_quo rfl rfl (by omega) (by omega) (by omega)) rfl ?_
  refine rl_val gw_none (ov_sub rfl rfl (by omega)) rfl ?_
  refine rl_val gw_none (ov_assign rfl) rfl ?_
  refine rl_nil ?_
  refine at_then ?_
  refine ct_seq ?_
  refine ct_reg ?_
  refine rl_val gw_none (ov_move rfl) rfl ?_
  refine rl_val gw_none (ov_neq rfl rfl) rfl ?_
  refine rl_nil ?_
  refine at_then ?_
  first | refine ct_dec rfl (fun h1 => ?_) (fun h1 => ?_) | refine ct_ndec rfl (fun h1 => ?_) (fun h1 => ?_) | refine ct_eq rfl (fun h1 => ?_) (fun h1 => ?_) | refine ct_ne rfl (fun h1 => ?_) (fun h1 => ?_) | refine ct_not rfl (fun h1 => ?_) (fun h1 => ?_) | refine ct_cond rfl (fun h1 => ?_) (fun h1 => ?_)
  ·
    refine ct_reg ?_
    refine rl_val gw_none (ov_move rfl) rfl ?_
    refine rl_val gw_none (ov_move rfl) rfl ?_
    refine rl_val gw_none (ov_move rfl) rfl ?_
    refine rl_val gw_none (ov_build rfl (bu128_0_1_2 _ _ _)) rfl ?_
    refine rl_bslice Try.underlying86 ze128 sz128 rfl rfl rfl rfl rfl rfl (fun N2 => ?_)
    refine rl_appT (flat encBeadMove) ((flat_append _)) [_] (bo := some N1) (acc := []) Try.underlying86 ze128 sz128 rfl rfl by128 rfl rfl rfl (Sl.lit rfl (by first | decide | (unfold maxLen; simp; done) | (unfold maxLen; simp; omega))) ([(⟨i, 0, t / 5 - f / 5⟩ : BeadMove)]) rfl (fun w1 hp => hp.sr1 0 rfl rfl (by decide)) (flat_one encBeadMove_one _) (by unfold maxLen; first | omega | (simp; done) | (simp; omega)) (by first | omega | (simp; done) | (simp; omega)) rfl (fun boq1 capq1 padq1 hsq1 => ?_)
    refine rl_val gw_none (ov_assign rfl) rfl ?_
    refine rl_nil ?_
    refine at_then ?_
    refine ct_seq ?_
    refine ct_seq ?_
    refine ct_reg ?_
    refine rl_val gw_none (ov_move rfl) rfl ?_
    refine rl_val gw_none (ov_rem rfl rfl (by omega) (by omega)) rfl ?_
    refine rl_val gw_none (ov_move rfl) rfl ?_
    refine rl_val gw_none (ov_rem rfl rfl (by omega) (by omega)) rfl ?_
    refine rl_val gw_none (ov_sub rfl rfl (by omega)) rfl ?_
    refine rl_val gw_none (ov_assign rfl) rfl ?_
    refine rl_nil ?_
    refine at_then ?_
    refine ct_seq ?_
    refine ct_reg ?_
    refine rl_val gw_none (ov_move rfl) rfl ?_
    refine rl_val gw_none (ov_neq rfl rfl) rfl ?_
    refine rl_nil ?_
    refine at_then ?_
    first | refine ct_dec rfl (fun h2 => ?_) (fun h2 => ?_) | refine ct_ndec rfl (fun h2 => ?_) (fun h2 => ?_) | refine ct_eq rfl (fun h2 => ?_) (fun h2 => ?_) | refine ct_ne rfl (fun h2 => ?_) (fun h2 => ?_) | refine ct_not rfl (fun h2 => ?_) (fun h2 => ?_) | refine ct_cond rfl (fun h2 => ?_) (fun h2 => ?_)
    ·
      refine ct_reg ?_
      refine rl_val gw_none (ov_move rfl) rfl ?_
      refine rl_val gw_none (ov_move rfl) rfl ?_
      refine rl_val gw_none (ov_move rfl) rfl ?_
      refine rl_val gw_none (ov_build rfl (bu128_0_1_2 _ _ _)) rfl ?_
      refine rl_bslice Try.underlying86 ze128 sz128 rfl rfl rfl rfl rfl rfl (fun N3 => ?_)
      refine rl_appT (flat encBeadMove) ((flat_append _)) [_, _] (acc := [] ++ [(⟨i, 0, t / 5 - f / 5⟩ : BeadMove)]) Try.underlying86 ze128 sz128 rfl rfl by128 rfl rfl rfl hsq1 ([(⟨i, 1, t % 5 - f % 5⟩ : BeadMove)]) rfl (fun w1 hp => hp.sr1 0 rfl rfl (by decide)) (flat_one encBeadMove_one _) (by unfold maxLen; first | omega | (simp; done) | (simp; omega)) (by first | omega | (simp; done) | (simp; omega)) rfl (fun boq2 capq2 padq2 hsq2 => ?_)
      refine rl_val gw_none (ov_assign rfl) rfl ?_
      refine rl_nil ?_
      refine at_then ?_
      refine ct_seq ?_
      refine ct_reg ?_
      refine rl_val gw_none (ov_move rfl) rfl ?_
      refine rl_val gw_none (ov_assign rfl) rfl ?_
      refine rl_nil ?_
      refine at_then ?_
      refine ct_ret ?_
      refine at_ret1 Try.results137 (ro_tmp rfl) (fun w1 hp => ?_)
      exact ⟨([] ++ [(⟨i, 0, t / 5 - f / 5⟩ : BeadMove)] ++ [(⟨i, 1, t % 5 - f % 5⟩ : BeadMove)], capq2, padq2), boq2, ⟨hsq2, by simp⟩, rfl, hp.toNewO (i := 2) rfl⟩
    ·
      refine ct_skip ?_
      refine at_then ?_
      refine ct_seq ?_
      refine ct_reg ?_
      refine rl_val gw_none (ov_move rfl) rfl ?_
      refine rl_val gw_none (ov_assign rfl) rfl ?_
      refine rl_nil ?_
      refine at_then ?_
      refine ct_ret ?_
      refine at_ret1 Try.results137 (ro_tmp rfl) (fun w1 hp => ?_)
      exact ⟨([] ++ [(⟨i, 0, t / 5 - f / 5⟩ : BeadMove)], capq1, padq1), boq1, ⟨hsq1, by simp⟩, rfl, hp.toNewO (i := 1) rfl⟩
  ·
    refine ct_skip ?_
    refine at_then ?_
    refine ct_seq ?_
    refine ct_seq ?_
    refine ct_reg ?_
    refine rl_val gw_none (ov_move rfl) rfl ?_
    refine rl_val gw_none (ov_rem rfl rfl (by omega) (by omega)) rfl ?_
    refine rl_val gw_none (ov_move rfl) rfl ?_
    refine rl_val gw_none (ov_rem rfl rfl (by omega) (by omega)) rfl ?_
    refine rl_val gw_none (ov_sub rfl rfl (by omega)) rfl ?_
    refine rl_val gw_none (ov_assign rfl) rfl ?_
    refine rl_nil ?_
    refine at_then ?_
    refine ct_seq ?_
    refine ct_reg ?_
    refine rl_val gw_none (ov_move rfl) rfl ?_
    refine rl_val gw_none (ov_neq rfl rfl) rfl ?_
    refine rl_nil ?_
    refine at_then ?_
    first | refine ct_dec rfl (fun h3 => ?_) (fun h3 => ?_) | refine ct_ndec rfl (fun h3 => ?_) (fun h3 => ?_) | refine ct_eq rfl (fun h3 => ?_) (fun h3 => ?_) | refine ct_ne rfl (fun h3 => ?_) (fun h3 => ?_) | refine ct_not rfl (fun h3 => ?_) (fun h3 => ?_) | refine ct_cond rfl (fun h3 => ?_) (fun h3 => ?_)
    ·
      refine ct_reg ?_
      refine rl_val gw_none (ov_move rfl) rfl ?_
      refine rl_val gw_none (ov_move rfl) rfl ?_
      refine rl_val gw_none (ov_move rfl) rfl ?_
      refine rl_val gw_none (ov_build rfl (bu128_0_1_2 _ _ _)) rfl ?_
      refine rl_bslice Try.underlying86 ze128 sz128 rfl rfl rfl rfl rfl rfl (fun N4 => ?_)
      refine rl_appT (flat encBeadMove) ((flat_append _)) [_] (bo := some N1) (acc := []) Try.underlying86 ze128 sz128 rfl rfl by128 rfl rfl rfl (Sl.lit rfl (by first | decide | (unfold maxLen; simp; done) | (unfold maxLen; simp; omega))) ([(⟨i, 1, t % 5 - f % 5⟩ : BeadMove)]) rfl (fun w1 hp => hp.sr1 0 rfl rfl (by decide)) (flat_one encBeadMove_one _) (by unfold maxLen; first | omega | (simp; done) | (simp; omega)) (by first | omega | (simp; done) | (simp; omega)) rfl (fun boq3 capq3 padq3 hsq3 => ?_)
      refine rl_val gw_none (ov_assign rfl) rfl ?_
      refine rl_nil ?_
      refine at_then ?_
      refine ct_seq ?_
      refine ct_reg ?_
      refine rl_val gw_none (ov_move rfl) rfl ?_
      refine rl_val gw_none (ov_assign rfl) rfl ?_
      refine rl_nil ?_
      refine at_then ?_
      refine ct_ret ?_
      refine at_ret1 Try.results137 (ro_tmp rfl) (fun w1 hp => ?_)
      exact ⟨([] ++ [(⟨i, 1, t % 5 - f % 5⟩ : BeadMove)], capq3, padq3), boq3, ⟨hsq3, by simp⟩, rfl, hp.toNewO (i := 1) rfl⟩
    ·
      refine ct_skip ?_
      refine at_then ?_
      refine ct_seq ?_
      refine ct_reg ?_
      refine rl_val gw_none (ov_move rfl) rfl ?_
      refine rl_val gw_none (ov_assign rfl) rfl ?_
      refine rl_nil ?_
      refine at_then ?_
      refine ct_ret ?_
      refine at_ret1 Try.results137 (ro_tmp rfl) (fun w1 hp => ?_)
      exact ⟨([], 0, []), some N1, ⟨Sl.lit rfl (Nat.zero_le _), by simp⟩, rfl, hp.toNewO (i := 0) rfl⟩

theorem l6At_c (u : Int) (l : Int) (xs : List IntA2) (vxs : Value) (n : Int) (k : Nat) (i : Int) (w : World) (zu : In64 u) (zl : In64 l) (hGxs : ∀ y ∈ xs, GIntA2 y) (hsxs : SR w 2 vxs xs.length (flat encIntA2 xs)) (hi : i = k) (hk : k < xs.length) (h8 : xs.length ≤ 8) (hn : 0 ≤ n ∧ n ≤ 1000000000) : Calls Try.prog 94 ([.agg (List.toArray (α := Value) [.int .i64 u, .int .i64 l, vxs]), .int .i64 n, .int .i64 i]).toArray w (fun e w' => e = .returned (.int .i64 (dg n xs.length k)) ∧ Ext w w') := by
  subst hi
  obtain ⟨axs, capxs, rfl, hcapxs, hmaxxs⟩ := hsxs.slice
  have hlenxs := hsxs.len_le
  have hpb := p10_bd (k := xs.length - 1 - k) (by omega)
  have hdb := div_p10_bd hn.1 (xs.length - 1 - k)
  refine calls_ct Try.func94 Try.ntmps94 rfl rfl ?_
  refine ct_seq ?_
  refine ct_reg ?_
  refine rl_box rfl rfl (fun N1 => ?_)
  refine rl_val gw_none (ov_assign rfl) rfl ?_
  refine rl_nil ?_
  refine at_then ?_
  refine ct_seq ?_
  refine ct_reg ?_
  refine rl_val gw_none (ov_move rfl) rfl ?_
  refine rl_val gw_none (ov_field fo26_2 rfl) rfl ?_
  first | refine rl_val gw_none (ov_load 0 sc22 rfl rfl rfl) rfl ?_ | refine rl_val gw_none (ov_load 0 sc22 rfl rfl (by assumption)) rfl ?_
  refine rl_val gw_none (ov_len Try.underlying22 rfl) rfl ?_
  refine rl_val gw_none (ov_sub rfl rfl (by omega)) rfl ?_
  refine rl_val gw_none (ov_move rfl) rfl ?_
  refine rl_val gw_none (ov_sub rfl rfl (by omega)) rfl ?_
  refine rl_callv gw_none goes107 rfl (fun w1 hp => l2Power_c _ (xs.length - 1 - k) _ (by omega) (by omega)) rfl ?_
  refine rl_val gw_none (ov_quo rfl rfl (by omega) (by omega) (by omega)) rfl ?_
  refine rl_val gw_none (ov_rem rfl rfl (by omega) (by omega)) rfl ?_
  refine rl_val gw_none (ov_assign rfl) rfl ?_
  refine rl_nil ?_
  refine at_then ?_
  refine ct_ret ?_
  refine at_ret1 Try.results94 (ro_tmp rfl) (fun w1 hp => ?_)
  exact ⟨rfl, hp.ext0⟩

theorem l6Digit_c (u : Int) (l : Int) (xs : List IntA2) (vxs : Value) (k : Nat) (i d : Int) (w : World) (zu : In64 u) (zl : In64 l) (hGxs : ∀ y ∈ xs, GIntA2 y) (hsxs : SR w 2 vxs xs.length (flat encIntA2 xs)) (hi : i = k) (hg : goodB u l xs = true) (hC0 : addC xs (k + 1) d) : Calls Try.prog 95 ([.agg (List.toArray (α := Value) [.int .i64 u, .int .i64 l, vxs]), .int .i64 i, .int .i64 d]).toArray w (fun e w' => ∃ q : (Option Nat × Nat × List Value × List BeadMove) × Nat × Nat × List Value, (Sl 3 q.1.1 q.1.2.2.2.length q.1.2.1 (flat encBeadMove q.1.2.2.2) q.1.2.2.1 ∧ q.1.2.2.2.length ≤ 2 * (k + 1) + 2 ∧ Sl 2 (some q.2.1) ((addS (k + 1) xs d).1).length q.2.2.1 (flat encIntA2 ((addS (k + 1) xs d).1)) q.2.2.2) ∧ e = .returned (.tuple #[sv q.1.1 q.1.2.2.2.length q.1.2.1, .agg [.int .i64 u, .int .i64 l, sv (some q.2.1) ((addS (k + 1) xs d).1).length q.2.2.1].toArray]) ∧ Hp ⟨w, []⟩ [(q.1.1, 128, flat encBeadMove q.1.2.2.2 ++ q.1.2.2.1), (some q.2.1, 81, flat encIntA2 ((addS (k + 1) xs d).1) ++ q.2.2.2)] w') := by
  subst hi
  obtain ⟨axs, capxs, rfl, hcapxs, hmaxxs⟩ := hsxs.slice
  have hlenxs := hsxs.len_le
  have h8 := (frameB_ul (goodB_f hg)).2.2.2
  have hlx := hC0.2.2.1
  have hSg := addS_good hg hC0
  refine calls_ct Try.func95 Try.ntmps95 rfl rfl ?_
  refine ct_seq ?_
  refine ct_reg ?_
  refine rl_box rfl rfl (fun N1 => ?_)
  refine rl_val gw_none (ov_assign rfl) rfl ?_
  refine rl_alloc ze26 rfl (fun N2 => ?_)
  refine rl_nil ?_
  refine at_then ?_
  refine ct_seq ?_
  refine ct_reg ?_
  refine rl_bslice Try.underlying86 ze128 sz128 rfl rfl rfl rfl rfl rfl (fun N3 => ?_)
  first | refine rl_val gw_none (ov_loadall 2 ag26 rfl rfl rfl) rfl ?_ | refine rl_val gw_none (ov_loadp 2 ag26 rfl rfl (vs := [_, _, _]) rfl rfl) rfl ?_ | refine rl_val gw_none (ov_loada 2 ag26 rfl rfl rfl (by assumption)) rfl ?_
  refine rl_callsl (ι := Nat × List Value) (fun i bo => .agg [.int .i64 u, .int .i64 l, sv bo (xs).length i.1].toArray) (fun i => flat encIntA2 (xs) ++ i.2) (fun i bo => Sl 2 bo (xs).length i.1 (flat encIntA2 (xs)) i.2) goes93 rfl (fun w1 hp => l2Own_c u l xs _ _ zu zl hGxs (hsxs.ext hp.ext0) h8) rfl (fun iow boow hsow => ?_)
  obtain ⟨bow, rfl⟩ := Sl.some hsow (by omega)
  refine rl_alloc ze26 rfl (fun N4 => ?_)
  refine rl_val gw_none (ov_assign rfl) rfl ?_
  refine rl_store [] sz26 rfl rfl rfl rfl rfl (Nat.le_of_ble_eq_true rfl) ?_
  refine rl_nil ?_
  refine at_then ?_
  refine ct_seq ?_
  refine ct_block ?_
  refine ct_loopR (ι := Nat × List IntA2 × Int × Option Nat × Nat × List Value × List BeadMove) (fun p0 => [(1, .int .i64 ((p0.1 : Int) - 1)), (2, .int .i64 p0.2.2.1), (8, sv p0.2.2.2.1 p0.2.2.2.2.2.2.length p0.2.2.2.2.1)]) [(6, _), (7, _), (9, _)] (fun p0 => [(p0.2.2.2.1, 128, flat encBeadMove p0.2.2.2.2.2.2 ++ p0.2.2.2.2.2.1), _, (some bow, 81, flat encIntA2 p0.2.1 ++ iow.2), _]) (fun p0 => goodB u l p0.2.1 = true ∧ addC p0.2.1 p0.1 p0.2.2.1 ∧ p0.2.1.length = xs.length ∧ (addS p0.1 p0.2.1 p0.2.2.1).1 = (addS (k + 1) xs d).1 ∧ Sl 3 p0.2.2.2.1 p0.2.2.2.2.2.2.length p0.2.2.2.2.1 (flat encBeadMove p0.2.2.2.2.2.2) p0.2.2.2.2.2.1 ∧ (0 < p0.2.2.1 → p0.2.2.2.2.2.2.length + 2 * p0.1 ≤ 2 * (k + 1)) ∧ p0.2.2.2.2.2.2.length + 2 * p0.1 ≤ 2 * (k + 1) + 2 ∧ p0.1 ≤ k + 1) (fun p0 => p0.1) ((k + 1, xs, d, some N3, 0, [], [])) (Sub.cons rfl (Sub.cons rfl (Sub.cons rfl Sub.nil))) (fun _ hp => (Hp.sub (Hp.pull (Hp.pull (Hp.pull (Hp.pull hp 3 rfl) 2 rfl) 2 rfl) 3 rfl) (List.sublist_append_left [_, _, _, _] _))) (by (repeat' (first | exact Sub.nil | refine Sub.cons ?_ ?_)); all_goals (first | rfl | exact lkInt rfl (by omega))) ⟨hg, hC0, rfl, rfl, Sl.lit rfl (Nat.zero_le _), fun _ => by simp, by simp, Nat.le_refl _⟩ (fun p0 hp0 => ?_)
  obtain ⟨p, ys, e, bm2, mc2, mp2, ms2⟩ := p0
  obtain ⟨hg2, hC, hyl, hF, hsm2, hm1, hm2, hpk⟩ := hp0
  dsimp only at hg2 hC hyl hF hsm2 hm1 hm2 hpk ⊢
  refine ct_seq ?_
  refine ct_seq ?_
  refine ct_reg ?_
  refine rl_val gw_none (ov_move rfl) rfl ?_
  refine rl_val gw_none (ov_gtr rfl rfl) rfl ?_
  refine rl_val gw_none (ov_move rfl) rfl ?_
  refine rl_split (t := 16) rfl (fun g1 => ?_) (fun g1 => ?_)
  ·
    have he0 : 0 < e := by simpa using g1
    obtain ⟨q, rfl⟩ : ∃ q, p = q + 1 := by
      rcases Nat.eq_zero_or_pos p with rfl | hp1
      · exact absurd (addC_zero hg2 hC) (by omega)
      · exact ⟨p - 1, by omega⟩
    have hp8 := hC.2.2.1
    have hqy : q < ys.length := by omega
    have hx := getLt hqy
    have hrg := good_at hg2 hx
    have hrv := rvAt_eq hx
    have hr := good_rv hg2 q
    have he9 := hC.2.1
    generalize ys[q] = r at *
    have hst := add_step hg2 hC
    obtain ⟨e1, e2⟩ := addS_yes (p := q) (xs := ys) he0
    rw [hrv] at hst e1 e2 hr
    refine rl_val (gw_some rfl rfl g1) (ov_move rfl) rfl ?_
    refine rl_val (gw_some rfl rfl g1) (ov_geq rfl rfl) rfl ?_
    refine rl_val gw_none (ov_pick_t rfl g1 rfl) rfl ?_
    refine rl_nil ?_
    refine at_then ?_
    first | refine ct_dec rfl (fun h1 => ?_) (fun h1 => ?_) | refine ct_ndec rfl (fun h1 => ?_) (fun h1 => ?_) | refine ct_eq rfl (fun h1 => ?_) (fun h1 => ?_) | refine ct_ne rfl (fun h1 => ?_) (fun h1 => ?_) | refine ct_not rfl (fun h1 => ?_) (fun h1 => ?_) | refine ct_cond rfl (fun h1 => ?_) (fun h1 => ?_)
    ·
      refine ct_skip ?_
      refine at_then ?_
      refine ct_block ?_
      refine ct_seq ?_
      refine ct_reg ?_
      refine rl_val gw_none (ov_field fo26_2 rfl) rfl ?_
      first | refine rl_val gw_none (ov_load 1 sc22 rfl rfl rfl) rfl ?_ | refine rl_val gw_none (ov_load 1 sc22 rfl rfl (by assumption)) rfl ?_
      refine rl_val gw_none (ov_move rfl) rfl ?_
      first | refine rl_val gw_none (ov_ix Try.underlying22 sz81 rfl rfl _ rfl (by omega)) rfl ?_ | refine rl_val gw_none (ov_ix Try.underlying22 sz81 rfl rfl (q) (by omega) (by omega)) rfl ?_
      refine rl_val gw_none (ov_loada 2 ag81 rfl rfl (vs := encIntA2 r) rfl (flatCells encIntA2_len hx _)) rfl ?_
      refine rl_callv gw_none goes84 rfl (fun w1 hp => l2Value_c r _ (by omega)) rfl ?_
      refine rl_val gw_none (ov_assign rfl) rfl ?_
      refine rl_nil ?_
      refine at_then ?_
      refine ct_seq ?_
      refine ct_reg ?_
      refine rl_val gw_none (ov_move rfl) rfl ?_
      refine rl_val gw_none (ov_move rfl) rfl ?_
      refine rl_val gw_none (ov_move rfl) rfl ?_
      refine rl_val gw_none (ov_move rfl) rfl ?_
      refine rl_val gw_none (ov_move rfl) rfl ?_
      refine rl_val gw_none (ov_add rfl rfl (by omega)) rfl ?_
      refine rl_val gw_none (ov_rem rfl rfl (by omega) (by omega)) rfl ?_
      refine rl_callsl (ι := List BeadMove × Nat × List Value) (fun i bo => sv bo i.1.length i.2.1) (fun i => flat encBeadMove i.1 ++ i.2.2) (fun i bo => Sl 3 bo i.1.length i.2.1 (flat encBeadMove i.1) i.2.2 ∧ i.1.length ≤ 2) goes137 rfl (fun w1 hp => l6Turn_c _ (5 * r.a + r.b) ((5 * r.a + r.b + e) % 10) _ (by omega) (by omega)) rfl (fun irm borm hsrm => ?_)
      refine rl_appT (flat encBeadMove) ((flat_append _)) [_] (acc := ms2) Try.underlying86 ze128 sz128 rfl rfl by128 rfl rfl rfl hsm2 (irm.1) rfl (fun w1 hp => hp.slsr 0 rfl hsrm.1) (flat_one encBeadMove_one _) (by unfold maxLen; first | omega | (simp; done) | (simp; omega)) (by first | omega | (simp; done) | (simp; omega)) rfl (fun boq1 capq1 padq1 hsq1 => ?_)
      refine rl_val gw_none (ov_assign rfl) rfl ?_
      refine rl_nil ?_
      refine at_then ?_
      refine ct_seq ?_
      refine ct_dr 9 (by kernel_rfl) (by kernel_rfl) ?_
      refine ql_val gw_none (ov_field fo26_2 rfl) rfl ?_
      first | refine ql_val gw_none (ov_load 2 sc22 rfl rfl rfl) rfl ?_ | refine ql_val gw_none (ov_load 2 sc22 rfl rfl (by assumption)) rfl ?_
      refine ql_val gw_none (ov_move rfl) rfl ?_
      refine ql_val gw_none (ov_move rfl) rfl ?_
      refine ql_val gw_none (ov_move rfl) rfl ?_
      refine ql_val gw_none (ov_add rfl rfl (by omega)) rfl ?_
      refine ql_val gw_none (ov_rem rfl rfl (by omega) (by omega)) rfl ?_
      refine ql_callv gw_none goes124 rfl (fun w1 hp => l2Digit_c _ _ (by omega)) rfl ?_
      first | refine ql_val gw_none (ov_ix Try.underlying22 sz81 rfl rfl _ rfl (by omega)) rfl ?_ | refine ql_val gw_none (ov_ix Try.underlying22 sz81 rfl rfl (q) (by omega) (by omega)) rfl ?_
      refine ql_nil ?_
      refine rl_store [_, _, _] sz81 rfl rfl rfl rfl rfl (by rw [List.length_append, flat_length encIntA2_len]; omega) ?_
      refine rl_mem (fun _ hq => hq.cong (congrArg (fun x => _ :: _ :: _ :: (_, _, x) :: _) (flatSetP encIntA2_len (rodFor ((5 * r.a + r.b + e) % 10)) _ hqy))) ?_
      refine rl_nil ?_
      refine at_then ?_
      refine ct_seq ?_
      refine ct_reg ?_
      refine rl_val gw_none (ov_move rfl) rfl ?_
      refine rl_val gw_none (ov_move rfl) rfl ?_
      refine rl_val gw_none (ov_add rfl rfl (by omega)) rfl ?_
      refine rl_val gw_none (ov_quo rfl rfl (by omega) (by omega) (by omega)) rfl ?_
      refine rl_val gw_none (ov_assign rfl) rfl ?_
      refine rl_nil ?_
      refine at_then ?_
      refine ct_reg ?_
      refine rl_val gw_none (ov_move rfl) rfl ?_
      refine rl_val gw_none (ov_sub rfl rfl (by omega)) rfl ?_
      refine rl_val gw_none (ov_assign rfl) rfl ?_
      refine rl_nil ?_
      refine at_block ?_
      have hlen2 : (ys.set q (rodFor ((5 * r.a + r.b + e) % 10))).length = ys.length := List.length_set
      exact at_backR (q, ys.set q (rodFor ((5 * r.a + r.b + e) % 10)), (5 * r.a + r.b + e) / 10, boq1, capq1, padq1, ms2 ++ irm.1) ⟨hst.2.1, hst.2.2.1, by dsimp only; rw [hlen2]; exact hyl, by dsimp only; rw [← e1]; exact hF, hsq1, fun _ => by have := hsrm.2; have := hm1 he0; simp only [List.length_append]; omega, by have := hsrm.2; have := hm1 he0; simp only [List.length_append]; omega, by dsimp only; omega⟩ (by dsimp only; omega) (by (repeat' (first | exact Sub.nil | refine Sub.cons ?_ ?_)); all_goals (first | rfl | exact lkInt rfl (by omega))) (Sub.cons rfl (Sub.cons rfl (Sub.cons rfl Sub.nil))) (fun _ hp => (Hp.sub (Hp.pull (Hp.pull (Hp.pull (Hp.pull hp 4 rfl) 4 rfl) 4 rfl) 4 rfl) (List.sublist_append_left [_, _, _, _] _)))
    ·
      exfalso; omega
  ·
    have hge : ¬ 0 < e := by simpa using g1
    have hF2 : ys = (addS (k + 1) xs d).1 := by rw [addS_no _ _ (show e ≤ 0 by omega)] at hF; exact hF
    refine rl_skip (gw_not rfl rfl g1) rfl ?_
    refine rl_skip (gw_not rfl rfl g1) rfl ?_
    refine rl_val gw_none (ov_pick_f rfl g1 rfl) rfl ?_
    refine rl_nil ?_
    refine at_then ?_
    refine ct_false rfl rfl ?_
    refine ct_exit ?_
    refine at_then_exit ?_
    refine at_then_exit ?_
    refine at_block_hit ?_
    refine at_then ?_
    refine ct_seq ?_
    refine ct_dr 3 (by kernel_rfl) (by kernel_rfl) ?_
    refine ql_val gw_none (ov_move rfl) rfl ?_
    first | refine ql_val gw_none (ov_loadall 1 ag26 rfl rfl rfl) rfl ?_ | refine ql_val gw_none (ov_loadp 1 ag26 rfl rfl (vs := [_, _, _]) rfl rfl) rfl ?_ | refine ql_val gw_none (ov_loada 1 ag26 rfl rfl rfl (by assumption)) rfl ?_
    refine ql_val gw_none (ov_assign rfl) rfl ?_
    refine ql_nil ?_
    refine rl_store [_, _, _] sz26 rfl rfl rfl rfl rfl (Nat.le_of_ble_eq_true rfl) ?_
    refine rl_nil ?_
    refine at_then ?_
    refine ct_ret ?_
    refine at_ret2 Try.results95 (ro_tmp rfl) (ro_cell 3 ag26 rfl rfl rfl) (fun w1 hp => ?_)
    exact ⟨((bm2, mc2, mp2, ms2), bow, iow.1, iow.2), ⟨hsm2, by dsimp only; omega, hF2 ▸ slSameG encIntA2_len hsow hyl⟩, by dsimp only; rw [← hF2, hyl]; rfl, by rw [← hF2]; exact (Hp.sub (Hp.pull (Hp.pull hp 2 rfl) 1 rfl) (List.sublist_append_left [_, _] _))⟩

theorem l8Digit_c (u : Int) (l : Int) (xs : List IntA2) (vxs : Value) (k : Nat) (i d : Int) (w : World) (zu : In64 u) (zl : In64 l) (hGxs : ∀ y ∈ xs, GIntA2 y) (hsxs : SR w 2 vxs xs.length (flat encIntA2 xs)) (hi : i = k) (hg : goodB u l xs = true) (hC0 : takeC xs (k + 1) d) : Calls Try.prog 101 ([.agg (List.toArray (α := Value) [.int .i64 u, .int .i64 l, vxs]), .int .i64 i, .int .i64 d]).toArray w (fun e w' => ∃ q : (Option Nat × Nat × List Value × List BeadMove) × Nat × Nat × List Value, (Sl 3 q.1.1 q.1.2.2.2.length q.1.2.1 (flat encBeadMove q.1.2.2.2) q.1.2.2.1 ∧ q.1.2.2.2.length ≤ 2 * (k + 1) + 2 ∧ Sl 2 (some q.2.1) ((takeS (k + 1) xs d).1).length q.2.2.1 (flat encIntA2 ((takeS (k + 1) xs d).1)) q.2.2.2) ∧ e = .returned (.tuple #[sv q.1.1 q.1.2.2.2.length q.1.2.1, .agg [.int .i64 u, .int .i64 l, sv (some q.2.1) ((takeS (k + 1) xs d).1).length q.2.2.1].toArray, .int .i64 ((takeS (k + 1) xs d).2 : Nat)]) ∧ Hp ⟨w, []⟩ [(q.1.1, 128, flat encBeadMove q.1.2.2.2 ++ q.1.2.2.1), (some q.2.1, 81, flat encIntA2 ((takeS (k + 1) xs d).1) ++ q.2.2.2)] w') := by
  subst hi
  obtain ⟨axs, capxs, rfl, hcapxs, hmaxxs⟩ := hsxs.slice
  have hlenxs := hsxs.len_le
  have h8 := (frameB_ul (goodB_f hg)).2.2.2
  have hlx := hC0.2.2.1
  have hSg := takeS_good hg hC0
  refine calls_ct Try.func101 Try.ntmps101 rfl rfl ?_
  refine ct_seq ?_
  refine ct_reg ?_
  refine rl_box rfl rfl (fun N1 => ?_)
  refine rl_val gw_none (ov_assign rfl) rfl ?_
  refine rl_alloc ze26 rfl (fun N2 => ?_)
  refine rl_val gw_none (ov_assign rfl) rfl ?_
  refine rl_nil ?_
  refine at_then ?_
  refine ct_seq ?_
  refine ct_reg ?_
  refine rl_bslice Try.underlying86 ze128 sz128 rfl rfl rfl rfl rfl rfl (fun N3 => ?_)
  first | refine rl_val gw_none (ov_loadall 2 ag26 rfl rfl rfl) rfl ?_ | refine rl_val gw_none (ov_loadp 2 ag26 rfl rfl (vs := [_, _, _]) rfl rfl) rfl ?_ | refine rl_val gw_none (ov_loada 2 ag26 rfl rfl rfl (by assumption)) rfl ?_
  refine rl_callsl (ι := Nat × List Value) (fun i bo => .agg [.int .i64 u, .int .i64 l, sv bo (xs).length i.1].toArray) (fun i => flat encIntA2 (xs) ++ i.2) (fun i bo => Sl 2 bo (xs).length i.1 (flat encIntA2 (xs)) i.2) goes93 rfl (fun w1 hp => l2Own_c u l xs _ _ zu zl hGxs (hsxs.ext hp.ext0) h8) rfl (fun iow boow hsow => ?_)
  obtain ⟨bow, rfl⟩ := Sl.some hsow (by omega)
  refine rl_alloc ze26 rfl (fun N4 => ?_)
  refine rl_val gw_none (ov_assign rfl) rfl ?_
  refine rl_store [] sz26 rfl rfl rfl rfl rfl (Nat.le_of_ble_eq_true rfl) ?_
  refine rl_val gw_none (ov_assign rfl) rfl ?_
  refine rl_nil ?_
  refine at_then ?_
  refine ct_seq ?_
  refine ct_block ?_
  refine ct_loopR (ι := Nat × List IntA2 × Int × Int × Option Nat × Nat × List Value × List BeadMove) (fun p0 => [(1, .int .i64 ((p0.1 : Int) - 1)), (2, .int .i64 p0.2.2.1), (9, sv p0.2.2.2.2.1 p0.2.2.2.2.2.2.2.length p0.2.2.2.2.2.1), (11, .int .i64 p0.2.2.2.1)]) [(6, _), (7, _), (8, _), (10, _)] (fun p0 => [(p0.2.2.2.2.1, 128, flat encBeadMove p0.2.2.2.2.2.2.2 ++ p0.2.2.2.2.2.2.1), _, (some bow, 81, flat encIntA2 p0.2.1 ++ iow.2), _]) (fun p0 => goodB u l p0.2.1 = true ∧ takeC p0.2.1 p0.1 p0.2.2.1 ∧ p0.2.1.length = xs.length ∧ (takeS p0.1 p0.2.1 p0.2.2.1).1 = (takeS (k + 1) xs d).1 ∧ Sl 3 p0.2.2.2.2.1 p0.2.2.2.2.2.2.2.length p0.2.2.2.2.2.1 (flat encBeadMove p0.2.2.2.2.2.2.2) p0.2.2.2.2.2.2.1 ∧ (0 < p0.2.2.1 → p0.2.2.2.2.2.2.2.length + 2 * p0.1 ≤ 2 * (k + 1)) ∧ p0.2.2.2.2.2.2.2.length + 2 * p0.1 ≤ 2 * (k + 1) + 2 ∧ p0.1 ≤ k + 1 ∧ p0.2.2.2.1 + ((takeS p0.1 p0.2.1 p0.2.2.1).2 : Nat) = ((takeS (k + 1) xs d).2 : Nat) ∧ 0 ≤ p0.2.2.2.1) (fun p0 => p0.1) ((k + 1, xs, d, 0, some N3, 0, [], [])) (Sub.cons rfl (Sub.cons rfl (Sub.cons rfl (Sub.cons rfl Sub.nil)))) (fun _ hp => (Hp.sub (Hp.pull (Hp.pull (Hp.pull (Hp.pull hp 3 rfl) 2 rfl) 2 rfl) 3 rfl) (List.sublist_append_left [_, _, _, _] _))) (by (repeat' (first | exact Sub.nil | refine Sub.cons ?_ ?_)); all_goals (first | rfl | exact lkInt rfl (by dsimp only; omega))) ⟨hg, hC0, rfl, rfl, Sl.lit rfl (Nat.zero_le _), fun _ => by simp, by simp, Nat.le_refl _, by simp, Int.le_refl 0⟩ (fun p0 hp0 => ?_)
  obtain ⟨p, ys, e, cn, bm2, mc2, mp2, ms2⟩ := p0
  obtain ⟨hg2, hC, hyl, hF, hsm2, hm1, hm2, hpk, hA, hcn⟩ := hp0
  dsimp only at hg2 hC hyl hF hsm2 hm1 hm2 hpk hA hcn ⊢
  refine ct_seq ?_
  refine ct_seq ?_
  refine ct_reg ?_
  refine rl_val gw_none (ov_move rfl) rfl ?_
  refine rl_val gw_none (ov_gtr rfl rfl) rfl ?_
  refine rl_val gw_none (ov_move rfl) rfl ?_
  refine rl_split (t := 19) rfl (fun g1 => ?_) (fun g1 => ?_)
  ·
    have he0 : 0 < e := by simpa using g1
    obtain ⟨q, rfl⟩ : ∃ q, p = q + 1 := by
      rcases Nat.eq_zero_or_pos p with rfl | hp1
      · exact absurd (takeC_zero hg2 hC) (by omega)
      · exact ⟨p - 1, by omega⟩
    have hp8 := hC.2.2.1
    have hqy : q < ys.length := by omega
    have hx := getLt hqy
    have hrg := good_at hg2 hx
    have hrv := rvAt_eq hx
    have hr := good_rv hg2 q
    have he9 := hC.2.1
    generalize ys[q] = r at *
    have hTb := (takeS_good hg2 hC).2.2.2
    have hTa := hSg.2.2.2
    refine rl_val (gw_some rfl rfl g1) (ov_move rfl) rfl ?_
    refine rl_val (gw_some rfl rfl g1) (ov_geq rfl rfl) rfl ?_
    refine rl_val gw_none (ov_pick_t rfl g1 rfl) rfl ?_
    refine rl_nil ?_
    refine at_then ?_
    first | refine ct_dec rfl (fun h1 => ?_) (fun h1 => ?_) | refine ct_ndec rfl (fun h1 => ?_) (fun h1 => ?_) | refine ct_eq rfl (fun h1 => ?_) (fun h1 => ?_) | refine ct_ne rfl (fun h1 => ?_) (fun h1 => ?_) | refine ct_not rfl (fun h1 => ?_) (fun h1 => ?_) | refine ct_cond rfl (fun h1 => ?_) (fun h1 => ?_)
    ·
      refine ct_skip ?_
      refine at_then ?_
      refine ct_block ?_
      refine ct_seq ?_
      refine ct_reg ?_
      refine rl_val gw_none (ov_field fo26_2 rfl) rfl ?_
      first | refine rl_val gw_none (ov_load 1 sc22 rfl rfl rfl) rfl ?_ | refine rl_val gw_none (ov_load 1 sc22 rfl rfl (by assumption)) rfl ?_
      refine rl_val gw_none (ov_move rfl) rfl ?_
      first | refine rl_val gw_none (ov_ix Try.underlying22 sz81 rfl rfl _ rfl (by omega)) rfl ?_ | refine rl_val gw_none (ov_ix Try.underlying22 sz81 rfl rfl (q) (by omega) (by omega)) rfl ?_
      refine rl_val gw_none (ov_loada 2 ag81 rfl rfl (vs := encIntA2 r) rfl (flatCells encIntA2_len hx _)) rfl ?_
      refine rl_callv gw_none goes84 rfl (fun w1 hp => l2Value_c r _ (by omega)) rfl ?_
      refine rl_val gw_none (ov_assign rfl) rfl ?_
      refine rl_val gw_none (ov_assign rfl) rfl ?_
      refine rl_nil ?_
      refine at_then ?_
      refine ct_seq ?_
      refine ct_seq ?_
      refine ct_reg ?_
      refine rl_val gw_none (ov_move rfl) rfl ?_
      refine rl_val gw_none (ov_move rfl) rfl ?_
      refine rl_val gw_none (ov_geq rfl rfl) rfl ?_
      refine rl_nil ?_
      refine at_then ?_
      first | refine ct_dec rfl (fun h2 => ?_) (fun h2 => ?_) | refine ct_ndec rfl (fun h2 => ?_) (fun h2 => ?_) | refine ct_eq rfl (fun h2 => ?_) (fun h2 => ?_) | refine ct_ne rfl (fun h2 => ?_) (fun h2 => ?_) | refine ct_not rfl (fun h2 => ?_) (fun h2 => ?_) | refine ct_cond rfl (fun h2 => ?_) (fun h2 => ?_)
      ·
        have hfit := take_fit hg2 hC he0 (by omega)
        have hfe := takeS_fit (p := q) (xs := ys) he0 (by omega)
        rw [hrv] at hfit hfe
        refine ct_seq ?_
        refine ct_reg ?_
        refine rl_val gw_none (ov_move rfl) rfl ?_
        refine rl_val gw_none (ov_move rfl) rfl ?_
        refine rl_val gw_none (ov_sub rfl rfl (by omega)) rfl ?_
        refine rl_val gw_none (ov_assign rfl) rfl ?_
        refine rl_nil ?_
        refine at_then ?_
        refine ct_reg ?_
        refine rl_val gw_none (ov_assign rfl) rfl ?_
        refine rl_nil ?_
        refine at_then ?_
        refine ct_seq ?_
        refine ct_reg ?_
        refine rl_val gw_none (ov_move rfl) rfl ?_
        refine rl_val gw_none (ov_move rfl) rfl ?_
        refine rl_val gw_none (ov_move rfl) rfl ?_
        refine rl_val gw_none (ov_move rfl) rfl ?_
        refine rl_callsl (ι := List BeadMove × Nat × List Value) (fun i bo => sv bo i.1.length i.2.1) (fun i => flat encBeadMove i.1 ++ i.2.2) (fun i bo => Sl 3 bo i.1.length i.2.1 (flat encBeadMove i.1) i.2.2 ∧ i.1.length ≤ 2) goes137 rfl (fun w1 hp => l6Turn_c _ (5 * r.a + r.b) ((5 * r.a + r.b - e)) _ (by omega) (by omega)) rfl (fun irm borm hsrm => ?_)
        refine rl_appT (flat encBeadMove) ((flat_append _)) [_] (acc := ms2) Try.underlying86 ze128 sz128 rfl rfl by128 rfl rfl rfl hsm2 (irm.1) rfl (fun w1 hp => hp.slsr 0 rfl hsrm.1) (flat_one encBeadMove_one _) (by unfold maxLen; first | omega | (simp; done) | (simp; omega)) (by first | omega | (simp; done) | (simp; omega)) rfl (fun boq1 capq1 padq1 hsq1 => ?_)
        refine rl_val gw_none (ov_assign rfl) rfl ?_
        refine rl_nil ?_
        refine at_then ?_
        refine ct_seq ?_
        refine ct_dr 6 (by kernel_rfl) (by kernel_rfl) ?_
        refine ql_val gw_none (ov_field fo26_2 rfl) rfl ?_
        first | refine ql_val gw_none (ov_load 2 sc22 rfl rfl rfl) rfl ?_ | refine ql_val gw_none (ov_load 2 sc22 rfl rfl (by assumption)) rfl ?_
        refine ql_val gw_none (ov_move rfl) rfl ?_
        refine ql_val gw_none (ov_move rfl) rfl ?_
        refine ql_callv gw_none goes124 rfl (fun w1 hp => l2Digit_c _ _ (by omega)) rfl ?_
        first | refine ql_val gw_none (ov_ix Try.underlying22 sz81 rfl rfl _ rfl (by omega)) rfl ?_ | refine ql_val gw_none (ov_ix Try.underlying22 sz81 rfl rfl (q) (by omega) (by omega)) rfl ?_
        refine ql_nil ?_
        refine rl_store [_, _, _] sz81 rfl rfl rfl rfl rfl (by rw [List.length_append, flat_length encIntA2_len]; omega) ?_
        refine rl_mem (fun _ hq => hq.cong (congrArg (fun x => _ :: _ :: _ :: (_, _, x) :: _) (flatSetP encIntA2_len (rodFor (5 * r.a + r.b - e)) _ hqy))) ?_
        refine rl_nil ?_
        refine at_then ?_
        refine ct_reg ?_
        refine rl_val gw_none (ov_move rfl) rfl ?_
        refine rl_val gw_none (ov_sub rfl rfl (by omega)) rfl ?_
        refine rl_val gw_none (ov_assign rfl) rfl ?_
        refine rl_nil ?_
        refine at_block ?_
        have hlen2 : (ys.set q (rodFor (5 * r.a + r.b - e))).length = ys.length := List.length_set
        have hnn := goodB_num hfit.1
        exact at_backR (q, ys.set q (rodFor (5 * r.a + r.b - e)), 0, cn, boq1, capq1, padq1, ms2 ++ irm.1) ⟨hfit.1, ⟨Int.le_refl _, by dsimp only; omega, by dsimp only; rw [hlen2]; omega, by dsimp only; rw [Int.zero_mul]; omega⟩, by dsimp only; rw [hlen2]; exact hyl, by dsimp only; rw [takeS_no _ _ (Int.le_refl 0), ← hF, hfe], hsq1, fun _ => by have := hsrm.2; have := hm1 he0; simp only [List.length_append]; omega, by have := hsrm.2; have := hm1 he0; simp only [List.length_append]; omega, by dsimp only; omega, by dsimp only; rw [takeS_no _ _ (Int.le_refl 0), ← hA, hfe], hcn⟩ (by dsimp only; omega) (by (repeat' (first | exact Sub.nil | refine Sub.cons ?_ ?_)); all_goals (first | rfl | exact lkInt rfl (by dsimp only; omega))) (Sub.cons rfl (Sub.cons rfl (Sub.cons rfl (Sub.cons rfl Sub.nil)))) (fun _ hp => (Hp.sub (Hp.pull (Hp.pull (Hp.pull (Hp.pull hp 4 rfl) 4 rfl) 4 rfl) 4 rfl) (List.sublist_append_left [_, _, _, _] _)))
      ·
        have hcm : 5 * r.a + r.b - e + 10 = 5 * r.a + r.b + 10 - e := by omega
        have hst := take_bor hg2 hC he0 (by omega)
        obtain ⟨e1, e2⟩ := takeS_bor (p := q) (xs := ys) he0 (by omega)
        rw [hrv, hcm] at hst e1 e2
        refine ct_seq ?_
        refine ct_reg ?_
        refine rl_val gw_none (ov_move rfl) rfl ?_
        refine rl_val gw_none (ov_add rfl rfl (by omega)) rfl ?_
        refine rl_val gw_none (ov_move rfl) rfl ?_
        refine rl_val gw_none (ov_sub rfl rfl (by omega)) rfl ?_
        refine rl_val gw_none (ov_assign rfl) rfl ?_
        refine rl_nil ?_
        refine at_then ?_
        refine ct_seq ?_
        refine ct_reg ?_
        refine rl_val gw_none (ov_assign rfl) rfl ?_
        refine rl_nil ?_
        refine at_then ?_
        refine ct_reg ?_
        refine rl_val gw_none (ov_move rfl) rfl ?_
        refine rl_val gw_none (ov_add rfl rfl (by omega)) rfl ?_
        refine rl_val gw_none (ov_assign rfl) rfl ?_
        refine rl_nil ?_
        refine at_then ?_
        refine ct_seq ?_
        refine ct_reg ?_
        refine rl_val gw_none (ov_move rfl) rfl ?_
        refine rl_val gw_none (ov_move rfl) rfl ?_
        refine rl_val gw_none (ov_move rfl) rfl ?_
        refine rl_val gw_none (ov_move rfl) rfl ?_
        refine rl_callsl (ι := List BeadMove × Nat × List Value) (fun i bo => sv bo i.1.length i.2.1) (fun i => flat encBeadMove i.1 ++ i.2.2) (fun i bo => Sl 3 bo i.1.length i.2.1 (flat encBeadMove i.1) i.2.2 ∧ i.1.length ≤ 2) goes137 rfl (fun w1 hp => l6Turn_c _ (5 * r.a + r.b) ((5 * r.a + r.b + 10 - e)) _ (by omega) (by omega)) rfl (fun irm borm hsrm => ?_)
        refine rl_appT (flat encBeadMove) ((flat_append _)) [_] (acc := ms2) Try.underlying86 ze128 sz128 rfl rfl by128 rfl rfl rfl hsm2 (irm.1) rfl (fun w1 hp => hp.slsr 0 rfl hsrm.1) (flat_one encBeadMove_one _) (by unfold maxLen; first | omega | (simp; done) | (simp; omega)) (by first | omega | (simp; done) | (simp; omega)) rfl (fun boq2 capq2 padq2 hsq2 => ?_)
        refine rl_val gw_none (ov_assign rfl) rfl ?_
        refine rl_nil ?_
        refine at_then ?_
        refine ct_seq ?_
        refine ct_dr 6 (by kernel_rfl) (by kernel_rfl) ?_
        refine ql_val gw_none (ov_field fo26_2 rfl) rfl ?_
        first | refine ql_val gw_none (ov_load 2 sc22 rfl rfl rfl) rfl ?_ | refine ql_val gw_none (ov_load 2 sc22 rfl rfl (by assumption)) rfl ?_
        refine ql_val gw_none (ov_move rfl) rfl ?_
        refine ql_val gw_none (ov_move rfl) rfl ?_
        refine ql_callv gw_none goes124 rfl (fun w1 hp => l2Digit_c _ _ (by omega)) rfl ?_
        first | refine ql_val gw_none (ov_ix Try.underlying22 sz81 rfl rfl _ rfl (by omega)) rfl ?_ | refine ql_val gw_none (ov_ix Try.underlying22 sz81 rfl rfl (q) (by omega) (by omega)) rfl ?_
        refine ql_nil ?_
        refine rl_store [_, _, _] sz81 rfl rfl rfl rfl rfl (by rw [List.length_append, flat_length encIntA2_len]; omega) ?_
        refine rl_mem (fun _ hq => hq.cong (congrArg (fun x => _ :: _ :: _ :: (_, _, x) :: _) (flatSetP encIntA2_len (rodFor (5 * r.a + r.b + 10 - e)) _ hqy))) ?_
        refine rl_nil ?_
        refine at_then ?_
        refine ct_reg ?_
        refine rl_val gw_none (ov_move rfl) rfl ?_
        refine rl_val gw_none (ov_sub rfl rfl (by omega)) rfl ?_
        refine rl_val gw_none (ov_assign rfl) rfl ?_
        refine rl_nil ?_
        refine at_block ?_
        have hlen2 : (ys.set q (rodFor (5 * r.a + r.b + 10 - e))).length = ys.length := List.length_set
        exact at_backR (q, ys.set q (rodFor (5 * r.a + r.b + 10 - e)), 1, cn + 1, boq2, capq2, padq2, ms2 ++ irm.1) ⟨hst.2.1, hst.2.2.1, by dsimp only; rw [hlen2]; exact hyl, by dsimp only; rw [← e1]; exact hF, hsq2, fun _ => by have := hsrm.2; have := hm1 he0; simp only [List.length_append]; omega, by have := hsrm.2; have := hm1 he0; simp only [List.length_append]; omega, by dsimp only; omega, by dsimp only; omega, by dsimp only; omega⟩ (by dsimp only; omega) (by (repeat' (first | exact Sub.nil | refine Sub.cons ?_ ?_)); all_goals (first | rfl | exact lkInt rfl (by dsimp only; omega))) (Sub.cons rfl (Sub.cons rfl (Sub.cons rfl (Sub.cons rfl Sub.nil)))) (fun _ hp => (Hp.sub (Hp.pull (Hp.pull (Hp.pull (Hp.pull hp 4 rfl) 4 rfl) 4 rfl) 4 rfl) (List.sublist_append_left [_, _, _, _] _)))
    ·
      exfalso; omega
  ·
    have hge : ¬ 0 < e := by simpa using g1
    have hF2 : ys = (takeS (k + 1) xs d).1 := by rw [takeS_no _ _ (show e ≤ 0 by omega)] at hF; exact hF
    have hA2 : cn = ((takeS (k + 1) xs d).2 : Nat) := by rw [takeS_no _ _ (show e ≤ 0 by omega)] at hA; simpa using hA
    refine rl_skip (gw_not rfl rfl g1) rfl ?_
    refine rl_skip (gw_not rfl rfl g1) rfl ?_
    refine rl_val gw_none (ov_pick_f rfl g1 rfl) rfl ?_
    refine rl_nil ?_
    refine at_then ?_
    refine ct_false rfl rfl ?_
    refine ct_exit ?_
    refine at_then_exit ?_
    refine at_then_exit ?_
    refine at_block_hit ?_
    refine at_then ?_
    refine ct_seq ?_
    refine ct_fl 5 [0, 1, 2, 3, 4, 5] ⟨0, [4], [4], [], [1], []⟩ (fun q => ⟨0, [], fun _ => undef⟩) (by kernel_rfl) (by kernel_rfl) ?_
    refine qf_mark True.intro ?_
    refine qg_val rfl gw_none (fun _ => (ov_move rfl)) rfl ?_
    refine qf_step rfl ?_
    first | refine qg_valm rfl rfl gw_none (ov_loadall 1 ag26 rfl rfl rfl) rfl ?_ | refine qg_valm rfl rfl gw_none (ov_loadp 1 ag26 rfl rfl (vs := [_, _, _]) rfl rfl) rfl ?_ | refine qg_valm rfl rfl gw_none (ov_loada 1 ag26 rfl rfl rfl (by assumption)) rfl ?_
    refine qf_step rfl ?_
    refine qg_val rfl gw_none (fun _ => (ov_move rfl)) rfl ?_
    refine qf_step rfl ?_
    refine qg_val rfl gw_none (fun _ => (ov_assign rfl)) rfl ?_
    refine qf_step rfl ?_
    refine qg_store [_, _, _] rfl rfl rfl True.intro sz26 rfl rfl rfl rfl rfl (Nat.le_of_ble_eq_true rfl) ?_
    refine qf_nil ?_
    refine rl_val gw_none (ov_assign rfl) rfl ?_
    refine rl_nil ?_
    refine at_then ?_
    refine ct_ret ?_
    refine at_ret3 Try.results101 (ro_tmp rfl) (ro_cell 3 ag26 rfl rfl rfl) (ro_tmp rfl) (fun w1 hp => ?_)
    exact ⟨((bm2, mc2, mp2, ms2), bow, iow.1, iow.2), ⟨hsm2, by dsimp only; omega, hF2 ▸ slSameG encIntA2_len hsow hyl⟩, by dsimp only; rw [← hF2, ← hA2, hyl]; rfl, by rw [← hF2]; exact (Hp.sub (Hp.pull (Hp.pull hp 2 rfl) 1 rfl) (List.sublist_append_left [_, _] _))⟩
end Go.Proofs.Ytnnhkpecgchgiaa
