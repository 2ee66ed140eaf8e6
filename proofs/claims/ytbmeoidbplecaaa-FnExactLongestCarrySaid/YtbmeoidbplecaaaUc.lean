import Derived.Test.YtbmeoidbplecaaaUb
import Derived.KernelRfl
set_option linter.unusedVariables false
set_option linter.unusedSimpArgs false
namespace Go.Proofs.Ytbmeoidbplecaaa
open Go Go.RowKit K
theorem canAdd_c (u : Int) (l : Int) (xs : List IntA2) (vxs : Value) (n : Int) (w : World) (zu : In64 u) (zl : In64 l) (hGxs : ∀ y ∈ xs, GIntA2 y) (hsxs : SR w 2 vxs xs.length (flat encIntA2 xs)) (zn : In64 n) (hf : frameB u l xs = true) : Calls Try.prog 23 ([.agg (List.toArray (α := Value) [.int .i64 u, .int .i64 l, vxs]), .int .i64 n]).toArray w (fun e w' => e = .returned (.bool (inB n 0 (p10 xs.length - 1) && inB (numF xs + n) 0 (p10 xs.length - 1))) ∧ Ext w w') := by
  obtain ⟨axs, capxs, rfl, hcapxs, hmaxxs⟩ := hsxs.slice
  have hlenxs := hsxs.len_le
  have h8 := (frameB_ul hf).2.2.2
  have hnb := numF_all hf
  have hpb := p10_bd h8
  refine calls_ct Try.func23 Try.ntmps23 rfl rfl ?_
  refine ct_seq ?_
  refine ct_reg ?_
  refine rl_box rfl rfl (fun N1 => ?_)
  refine rl_val gw_none (ov_assign rfl) rfl ?_
  refine rl_nil ?_
  refine at_then ?_
  refine ct_seq ?_
  refine ct_dr 12 (by kernel_rfl) (by kernel_rfl) ?_
  first | refine ql_val gw_none (ov_loadall 0 ag28 rfl rfl rfl) rfl ?_ | refine ql_val gw_none (ov_loadp 0 ag28 rfl rfl (vs := [_, _, _]) rfl rfl) rfl ?_ | refine ql_val gw_none (ov_loada 0 ag28 rfl rfl rfl (by assumption)) rfl ?_
  refine ql_val gw_none (ov_move rfl) rfl ?_
  refine ql_callv gw_none goes31 rfl (fun w1 hp => fitsOn_c u l xs _ n _ zu zl hGxs (hsxs.ext hp.ext0) h8) rfl ?_
  refine ql_val gw_none (ov_move rfl) rfl ?_
  refine ql_split (t := 8) rfl (fun g1 => ?_) (fun g1 => ?_)
  ·
    have g1' := g1
    try simp only [Bool.not_eq_true', Bool.not_eq_false', Bool.not_not, decide_eq_true_eq, decide_eq_false_iff_not, beq_iff_eq, beq_eq_false_iff_ne, bne_iff_ne, bne_eq_false_iff_eq, Bool.and_eq_true, Bool.or_eq_true, Bool.and_eq_false_iff, Bool.or_eq_false_iff, inB] at g1'
    first | refine ql_val (gw_some rfl rfl g1) (ov_loadall 0 ag28 rfl rfl rfl) rfl ?_ | refine ql_val (gw_some rfl rfl g1) (ov_loadp 0 ag28 rfl rfl (vs := [_, _, _]) rfl rfl) rfl ?_ | refine ql_val (gw_some rfl rfl g1) (ov_loada 0 ag28 rfl rfl rfl (by assumption)) rfl ?_
    first | refine ql_val (gw_some rfl rfl g1) (ov_loadall 0 ag28 rfl rfl rfl) rfl ?_ | refine ql_val (gw_some rfl rfl g1) (ov_loadp 0 ag28 rfl rfl (vs := [_, _, _]) rfl rfl) rfl ?_ | refine ql_val (gw_some rfl rfl g1) (ov_loada 0 ag28 rfl rfl rfl (by assumption)) rfl ?_
    refine ql_callv (gw_some rfl rfl g1) goes32 rfl (fun w1 hp => number_c u l xs _ _ zu zl hGxs (hsxs.ext hp.ext0) hf) rfl ?_
    refine ql_val (gw_some rfl rfl g1) (ov_move rfl) rfl ?_
    refine ql_val (gw_some rfl rfl g1) (ov_add rfl rfl (by omega)) rfl ?_
    refine ql_callv (gw_some rfl rfl g1) goes31 rfl (fun w1 hp => fitsOn_c u l xs _ (numF xs + n) _ zu zl hGxs (hsxs.ext hp.ext0) h8) rfl ?_
    refine ql_val gw_none (ov_pick_t rfl g1 rfl) rfl ?_
    refine ql_val gw_none (ov_assign rfl) rfl ?_
    refine ql_nil ?_
    refine rl_nil ?_
    refine at_then ?_
    refine ct_ret ?_
    refine at_ret1 Try.results23 (ro_tmp rfl) (fun w1 hp => ?_)
    refine ⟨?_, hp.ext0⟩
    first | (rw [g1, Bool.true_and]; done) | (rw [g1, Bool.false_and]; done) | (simp_all; done)
  ·
    have g1' := g1
    try simp only [Bool.not_eq_true', Bool.not_eq_false', Bool.not_not, decide_eq_true_eq, decide_eq_false_iff_not, beq_iff_eq, beq_eq_false_iff_ne, bne_iff_ne, bne_eq_false_iff_eq, Bool.and_eq_true, Bool.or_eq_true, Bool.and_eq_false_iff, Bool.or_eq_false_iff, inB] at g1'
    refine ql_skip (gw_not rfl rfl g1) rfl ?_
    refine ql_skip (gw_not rfl rfl g1) rfl ?_
    refine ql_skip (gw_not rfl rfl g1) rfl ?_
    refine ql_skip (gw_not rfl rfl g1) rfl ?_
    refine ql_skip (gw_not rfl rfl g1) rfl ?_
    refine ql_skip (gw_not rfl rfl g1) rfl ?_
    refine ql_val gw_none (ov_pick_f rfl g1 rfl) rfl ?_
    refine ql_val gw_none (ov_assign rfl) rfl ?_
    refine ql_nil ?_
    refine rl_nil ?_
    refine at_then ?_
    refine ct_ret ?_
    refine at_ret1 Try.results23 (ro_tmp rfl) (fun w1 hp => ?_)
    refine ⟨?_, hp.ext0⟩
    first | (rw [g1, Bool.true_and]; done) | (rw [g1, Bool.false_and]; done) | (simp_all; done)

theorem placeValue_c (u : Int) (l : Int) (xs : List IntA2) (vxs : Value) (rod d : Int) (w : World) (zu : In64 u) (zl : In64 l) (hGxs : ∀ y ∈ xs, GIntA2 y) (hsxs : SR w 2 vxs xs.length (flat encIntA2 xs)) (hr : 0 ≤ rod ∧ rod < xs.length) (hd : 0 ≤ d ∧ d ≤ 9) (h8 : xs.length ≤ 8) : Calls Try.prog 24 ([.agg (List.toArray (α := Value) [.int .i64 u, .int .i64 l, vxs]), .int .i64 rod, .int .i64 d]).toArray w (fun e w' => e = .returned (.int .i64 (plc xs rod d)) ∧ Ext w w') := by
  obtain ⟨axs, capxs, rfl, hcapxs, hmaxxs⟩ := hsxs.slice
  have hlenxs := hsxs.len_le
  have hpb := plc_bd (rod := rod) h8 hd
  unfold plc at hpb
  refine calls_ct Try.func24 Try.ntmps24 rfl rfl ?_
  refine ct_seq ?_
  refine ct_reg ?_
  refine rl_box rfl rfl (fun N1 => ?_)
  refine rl_val gw_none (ov_assign rfl) rfl ?_
  refine rl_nil ?_
  refine at_then ?_
  refine ct_seq ?_
  refine ct_reg ?_
  refine rl_val gw_none (ov_move rfl) rfl ?_
  refine rl_val gw_none (ov_field fo28_2 rfl) rfl ?_
  first | refine rl_val gw_none (ov_load 0 sc22 rfl rfl rfl) rfl ?_ | refine rl_val gw_none (ov_load 0 sc22 rfl rfl (by assumption)) rfl ?_
  refine rl_val gw_none (ov_len Try.underlying22 rfl) rfl ?_
  refine rl_val gw_none (ov_sub rfl rfl (by omega)) rfl ?_
  refine rl_val gw_none (ov_move rfl) rfl ?_
  refine rl_val gw_none (ov_sub rfl rfl (by omega)) rfl ?_
  refine rl_callv gw_none goes33 rfl (fun w1 hp => power_c _ (xs.length - 1 - rod.toNat) _ (by omega) (by omega)) rfl ?_
  refine rl_val gw_none (ov_mul rfl rfl (by omega)) rfl ?_
  refine rl_val gw_none (ov_assign rfl) rfl ?_
  refine rl_nil ?_
  refine at_then ?_
  refine ct_ret ?_
  refine at_ret1 Try.results24 (ro_tmp rfl) (fun w1 hp => ?_)
  exact ⟨rfl, hp.ext0⟩

theorem addDigit_no (u : Int) (l : Int) (xs : List IntA2) (vxs : Value) (rod d : Int) (w : World) (zu : In64 u) (zl : In64 l) (hGxs : ∀ y ∈ xs, GIntA2 y) (hsxs : SR w 2 vxs xs.length (flat encIntA2 xs)) (zrod : In64 rod) (zd : In64 d) (hc : addDB u l xs rod d = false) : Calls Try.prog 13 ([.agg (List.toArray (α := Value) [.int .i64 u, .int .i64 l, vxs]), .int .i64 rod, .int .i64 d]).toArray w (fun e w' => e = .returned (.tuple #[.pointer none, .bool false]) ∧ Ext w w') := by
  obtain ⟨axs, capxs, rfl, hcapxs, hmaxxs⟩ := hsxs.slice
  have hlenxs := hsxs.len_le
  refine calls_ct Try.func13 Try.ntmps13 rfl rfl ?_
  refine ct_seq ?_
  refine ct_reg ?_
  refine rl_box rfl rfl (fun N1 => ?_)
  refine rl_val gw_none (ov_assign rfl) rfl ?_
  refine rl_val gw_none (ov_assign rfl) rfl ?_
  refine rl_nil ?_
  refine at_then ?_
  refine ct_seq ?_
  refine ct_reg ?_
  first | refine rl_val gw_none (ov_loadall 0 ag28 rfl rfl rfl) rfl ?_ | refine rl_val gw_none (ov_loadp 0 ag28 rfl rfl (vs := [_, _, _]) rfl rfl) rfl ?_ | refine rl_val gw_none (ov_loada 0 ag28 rfl rfl rfl (by assumption)) rfl ?_
  refine rl_callx (ι := Value) (fun p => .tuple #[p, .bool (goodB u l xs)]) (fun _ => True) gw_none goes20 rfl (fun w1 hp => begin_x u l xs _ _ zu zl hGxs (hsxs.ext hp.ext0)) rfl (fun pb _ => ?_)
  refine rl_val gw_none (ov_move rfl) rfl ?_
  refine rl_val gw_none (ov_extract rfl rfl) rfl ?_
  refine rl_val gw_none (ov_extract rfl rfl) rfl ?_
  refine rl_val gw_none (ov_assign rfl) rfl ?_
  refine rl_val gw_none (ov_assign rfl) rfl ?_
  refine rl_nil ?_
  refine at_then ?_
  refine ct_seq ?_
  refine ct_seq ?_
  refine ct_dr 22 (by kernel_rfl) (by kernel_rfl) ?_
  refine ql_val gw_none (ov_move rfl) rfl ?_
  refine ql_val gw_none (ov_not rfl) rfl ?_
  refine ql_val gw_none (ov_move rfl) rfl ?_
  refine ql_split (t := 17) rfl (fun g1 => ?_) (fun g1 => ?_)
  ·
    have g1' := g1
    try simp only [Bool.not_eq_true', Bool.not_eq_false', Bool.not_not, decide_eq_true_eq, decide_eq_false_iff_not, beq_iff_eq, beq_eq_false_iff_ne, bne_iff_ne, bne_eq_false_iff_eq, Bool.and_eq_true, Bool.or_eq_true, Bool.and_eq_false_iff, Bool.or_eq_false_iff, inB] at g1'
    refine ql_skip (gw_not rfl rfl g1) rfl ?_
    refine ql_skip (gw_not rfl rfl g1) rfl ?_
    refine ql_skip (gw_not rfl rfl g1) rfl ?_
    refine ql_skip (gw_not rfl rfl g1) rfl ?_
    refine ql_val gw_none (ov_pick_t rfl g1 rfl) rfl ?_
    refine ql_val gw_none (ov_move rfl) rfl ?_
    refine ql_skip (gw_not rfl rfl rfl) rfl ?_
    refine ql_skip (gw_not rfl rfl rfl) rfl ?_
    refine ql_skip (gw_not rfl rfl rfl) rfl ?_
    refine ql_val gw_none (ov_pick_t rfl rfl rfl) rfl ?_
    refine ql_val gw_none (ov_move rfl) rfl ?_
    refine ql_skip (gw_not rfl rfl rfl) rfl ?_
    refine ql_skip (gw_not rfl rfl rfl) rfl ?_
    refine ql_skip (gw_not rfl rfl rfl) rfl ?_
    refine ql_skip (gw_not rfl rfl rfl) rfl ?_
    refine ql_skip (gw_not rfl rfl rfl) rfl ?_
    refine ql_skip (gw_not rfl rfl rfl) rfl ?_
    refine ql_skip (gw_not rfl rfl rfl) rfl ?_
    refine ql_val gw_none (ov_pick_t rfl rfl rfl) rfl ?_
    refine ql_nil ?_
    refine rl_nil ?_
    refine at_then ?_
    refine ct_true rfl rfl ?_
    refine ct_seq ?_
    refine ct_reg ?_
    refine rl_val gw_none (ov_assign rfl) rfl ?_
    refine rl_val gw_none (ov_assign rfl) rfl ?_
    refine rl_nil ?_
    refine at_then ?_
    refine ct_ret ?_
    refine at_then_ret ?_
    refine at_ret2 Try.results13 (ro_tmp rfl) (ro_tmp rfl) (fun w1 hp => ?_)
    exact ⟨rfl, hp.ext0⟩
  ·
    have hg : goodB u l xs = true := by simpa using g1
    have hf := goodB_f hg
    have h8 := (frameB_ul hf).2.2.2
    first | refine ql_val (gw_some rfl rfl g1) (ov_loadall 0 ag28 rfl rfl rfl) rfl ?_ | refine ql_val (gw_some rfl rfl g1) (ov_loadp 0 ag28 rfl rfl (vs := [_, _, _]) rfl rfl) rfl ?_ | refine ql_val (gw_some rfl rfl g1) (ov_loada 0 ag28 rfl rfl rfl (by assumption)) rfl ?_
    refine ql_val (gw_some rfl rfl g1) (ov_move rfl) rfl ?_
    refine ql_callv (gw_some rfl rfl g1) goes21 rfl (fun w1 hp => hasRod_c u l xs _ _ _ zu zl hGxs (hsxs.ext hp.ext0)) rfl ?_
    refine ql_val (gw_some rfl rfl g1) (ov_not rfl) rfl ?_
    refine ql_val gw_none (ov_pick_f rfl g1 rfl) rfl ?_
    refine ql_val gw_none (ov_move rfl) rfl ?_
    refine ql_split (t := 23) rfl (fun g2 => ?_) (fun g2 => ?_)
    ·
      have g2' := g2
      try simp only [Bool.not_eq_true', Bool.not_eq_false', Bool.not_not, decide_eq_true_eq, decide_eq_false_iff_not, beq_iff_eq, beq_eq_false_iff_ne, bne_iff_ne, bne_eq_false_iff_eq, Bool.and_eq_true, Bool.or_eq_true, Bool.and_eq_false_iff, Bool.or_eq_false_iff, inB] at g2'
      refine ql_skip (gw_not rfl rfl g2) rfl ?_
      refine ql_skip (gw_not rfl rfl g2) rfl ?_
      refine ql_skip (gw_not rfl rfl g2) rfl ?_
      refine ql_val gw_none (ov_pick_t rfl g2 rfl) rfl ?_
      refine ql_val gw_none (ov_move rfl) rfl ?_
      refine ql_skip (gw_not rfl rfl rfl) rfl ?_
      refine ql_skip (gw_not rfl rfl rfl) rfl ?_
      refine ql_skip (gw_not rfl rfl rfl) rfl ?_
      refine ql_skip (gw_not rfl rfl rfl) rfl ?_
      refine ql_skip (gw_not rfl rfl rfl) rfl ?_
      refine ql_skip (gw_not rfl rfl rfl) rfl ?_
      refine ql_skip (gw_not rfl rfl rfl) rfl ?_
      refine ql_val gw_none (ov_pick_t rfl rfl rfl) rfl ?_
      refine ql_nil ?_
      refine rl_nil ?_
      refine at_then ?_
      refine ct_true rfl rfl ?_
      refine ct_seq ?_
      refine ct_reg ?_
      refine rl_val gw_none (ov_assign rfl) rfl ?_
      refine rl_val gw_none (ov_assign rfl) rfl ?_
      refine rl_nil ?_
      refine at_then ?_
      refine ct_ret ?_
      refine at_then_ret ?_
      refine at_ret2 Try.results13 (ro_tmp rfl) (ro_tmp rfl) (fun w1 hp => ?_)
      exact ⟨rfl, hp.ext0⟩
    ·
      have hrb := g2
      try simp only [Bool.not_eq_false', Bool.not_eq_true', Bool.not_eq_true, Bool.not_eq_false] at hrb
      refine ql_val (gw_some rfl rfl g2) (ov_move rfl) rfl ?_
      refine ql_callv (gw_some rfl rfl g2) goes22 rfl (fun w1 hp => within_c _ _ _ _) rfl ?_
      refine ql_val (gw_some rfl rfl g2) (ov_not rfl) rfl ?_
      refine ql_val gw_none (ov_pick_f rfl g2 rfl) rfl ?_
      refine ql_val gw_none (ov_move rfl) rfl ?_
      refine ql_split (t := 28) rfl (fun g3 => ?_) (fun g3 => ?_)
      ·
        have g3' := g3
        try simp only [Bool.not_eq_true', Bool.not_eq_false', Bool.not_not, decide_eq_true_eq, decide_eq_false_iff_not, beq_iff_eq, beq_eq_false_iff_ne, bne_iff_ne, bne_eq_false_iff_eq, Bool.and_eq_true, Bool.or_eq_true, Bool.and_eq_false_iff, Bool.or_eq_false_iff, inB] at g3'
        refine ql_skip (gw_not rfl rfl g3) rfl ?_
        refine ql_skip (gw_not rfl rfl g3) rfl ?_
        refine ql_skip (gw_not rfl rfl g3) rfl ?_
        refine ql_skip (gw_not rfl rfl g3) rfl ?_
        refine ql_skip (gw_not rfl rfl g3) rfl ?_
        refine ql_skip (gw_not rfl rfl g3) rfl ?_
        refine ql_skip (gw_not rfl rfl g3) rfl ?_
        refine ql_val gw_none (ov_pick_t rfl g3 rfl) rfl ?_
        refine ql_nil ?_
        refine rl_nil ?_
        refine at_then ?_
        refine ct_true rfl rfl ?_
        refine ct_seq ?_
        refine ct_reg ?_
        refine rl_val gw_none (ov_assign rfl) rfl ?_
        refine rl_val gw_none (ov_assign rfl) rfl ?_
        refine rl_nil ?_
        refine at_then ?_
        refine ct_ret ?_
        refine at_then_ret ?_
        refine at_ret2 Try.results13 (ro_tmp rfl) (ro_tmp rfl) (fun w1 hp => ?_)
        exact ⟨rfl, hp.ext0⟩
      ·
        have hdb := g3
        try simp only [Bool.not_eq_false', Bool.not_eq_true', Bool.not_eq_true, Bool.not_eq_false] at hdb
        have hplc : In64 (plc xs rod d) := by have := plc_bd (xs := xs) (rod := rod) h8 (by simpa [inB] using hdb); unfold In64; omega
        first | refine ql_val (gw_some rfl rfl g3) (ov_loadall 0 ag28 rfl rfl rfl) rfl ?_ | refine ql_val (gw_some rfl rfl g3) (ov_loadp 0 ag28 rfl rfl (vs := [_, _, _]) rfl rfl) rfl ?_ | refine ql_val (gw_some rfl rfl g3) (ov_loada 0 ag28 rfl rfl rfl (by assumption)) rfl ?_
        first | refine ql_val (gw_some rfl rfl g3) (ov_loadall 0 ag28 rfl rfl rfl) rfl ?_ | refine ql_val (gw_some rfl rfl g3) (ov_loadp 0 ag28 rfl rfl (vs := [_, _, _]) rfl rfl) rfl ?_ | refine ql_val (gw_some rfl rfl g3) (ov_loada 0 ag28 rfl rfl rfl (by assumption)) rfl ?_
        refine ql_val (gw_some rfl rfl g3) (ov_move rfl) rfl ?_
        refine ql_val (gw_some rfl rfl g3) (ov_move rfl) rfl ?_
        refine ql_callv (gw_some rfl rfl g3) goes24 rfl (fun w1 hp => placeValue_c u l xs _ rod d _ zu zl hGxs (hsxs.ext hp.ext0) (by simp only [inB, Bool.and_eq_true, decide_eq_true_eq] at hrb; omega) (by simp only [inB, Bool.and_eq_true, decide_eq_true_eq] at hdb; omega) h8) rfl ?_
        refine ql_callv (gw_some rfl rfl g3) goes23 rfl (fun w1 hp => canAdd_c u l xs _ (plc xs rod d) _ zu zl hGxs (hsxs.ext hp.ext0) hplc hf) rfl ?_
        refine ql_val (gw_some rfl rfl g3) (ov_not rfl) rfl ?_
        refine ql_val gw_none (ov_pick_f rfl g3 rfl) rfl ?_
        refine ql_nil ?_
        refine rl_nil ?_
        refine at_then ?_
        first | refine ct_dec rfl (fun h1 => ?_) (fun h1 => ?_) | refine ct_ndec rfl (fun h1 => ?_) (fun h1 => ?_) | refine ct_eq rfl (fun h1 => ?_) (fun h1 => ?_) | refine ct_ne rfl (fun h1 => ?_) (fun h1 => ?_) | refine ct_not rfl (fun h1 => ?_) (fun h1 => ?_) | refine ct_cond rfl (fun h1 => ?_) (fun h1 => ?_)
        ·
          refine ct_seq ?_
          refine ct_reg ?_
          refine rl_val gw_none (ov_assign rfl) rfl ?_
          refine rl_val gw_none (ov_assign rfl) rfl ?_
          refine rl_nil ?_
          refine at_then ?_
          refine ct_ret ?_
          refine at_then_ret ?_
          refine at_ret2 Try.results13 (ro_tmp rfl) (ro_tmp rfl) (fun w1 hp => ?_)
          exact ⟨rfl, hp.ext0⟩
        ·
          have ha := h1
          try simp only [Bool.not_eq_false', Bool.not_eq_true', Bool.not_eq_true, Bool.not_eq_false] at ha
          rw [addDB_can hg hrb hdb] at hc
          rw [hc] at ha
          cases ha

theorem addDigit_yes (u : Int) (l : Int) (xs : List IntA2) (vxs : Value) (rod d : Int) (w : World) (zu : In64 u) (zl : In64 l) (hGxs : ∀ y ∈ xs, GIntA2 y) (hsxs : SR w 2 vxs xs.length (flat encIntA2 xs)) (zrod : In64 rod) (zd : In64 d) (hc : addDB u l xs rod d = true) : Calls Try.prog 13 ([.agg (List.toArray (α := Value) [.int .i64 u, .int .i64 l, vxs]), .int .i64 rod, .int .i64 d]).toArray w (fun e w' => ∃ q : Nat × Nat × Nat × List Value × Option Nat × Nat × List Value × List BeadMove, (Sl 2 (some q.2.1) ((addS (rod.toNat + 1) xs d).1).length q.2.2.1 (flat encIntA2 ((addS (rod.toNat + 1) xs d).1)) q.2.2.2.1 ∧ Sl 3 q.2.2.2.2.1 q.2.2.2.2.2.2.2.length q.2.2.2.2.2.1 (flat encBeadMove q.2.2.2.2.2.2.2) q.2.2.2.2.2.2.1) ∧ e = .returned (.tuple #[.pointer (some ⟨q.1, 0, none⟩), .bool true]) ∧ Hp ⟨w, []⟩ [(some q.1, 42, [.int .i64 u, .int .i64 l, sv (some q.2.1) ((addS (rod.toNat + 1) xs d).1).length q.2.2.1, sv q.2.2.2.2.1 (q.2.2.2.2.2.2.2).length q.2.2.2.2.2.1, .int .i64 (0 + ((addS (rod.toNat + 1) xs d).2 : Nat))]), (some q.2.1, 35, flat encIntA2 ((addS (rod.toNat + 1) xs d).1) ++ q.2.2.2.1), (q.2.2.2.2.1, 61, flat encBeadMove (q.2.2.2.2.2.2.2) ++ q.2.2.2.2.2.2.1)] w') := by
  obtain ⟨axs, capxs, rfl, hcapxs, hmaxxs⟩ := hsxs.slice
  have hlenxs := hsxs.len_le
  obtain ⟨hg, hr, hd, hC⟩ := addDB_ok hc
  have hf := goodB_f hg
  have h8 := (frameB_ul hf).2.2.2
  have hrb : inB rod 0 ((xs.length : Int) - 1) = true := by simp only [inB, Bool.and_eq_true, decide_eq_true_eq]; omega
  have hdb : inB d 0 9 = true := by simp only [inB, Bool.and_eq_true, decide_eq_true_eq]; omega
  have hca := addDB_can hg hrb hdb
  rw [hc] at hca
  have hplc : In64 (plc xs rod d) := by have := plc_bd (xs := xs) (rod := rod) h8 hd; unfold In64; omega
  have hSg := addS_good hg hC
  refine calls_ct Try.func13 Try.ntmps13 rfl rfl ?_
  refine ct_seq ?_
  refine ct_reg ?_
  refine rl_box rfl rfl (fun N1 => ?_)
  refine rl_val gw_none (ov_assign rfl) rfl ?_
  refine rl_val gw_none (ov_assign rfl) rfl ?_
  refine rl_nil ?_
  refine at_then ?_
  refine ct_seq ?_
  refine ct_reg ?_
  first | refine rl_val gw_none (ov_loadall 0 ag28 rfl rfl rfl) rfl ?_ | refine rl_val gw_none (ov_loadp 0 ag28 rfl rfl (vs := [_, _, _]) rfl rfl) rfl ?_ | refine rl_val gw_none (ov_loada 0 ag28 rfl rfl rfl (by assumption)) rfl ?_
  refine rl_calle (ι := Nat × Nat × Nat × List Value) (fun q => .tuple #[.pointer (some ⟨q.1, 0, none⟩), .bool true]) (fun q => [(some q.1, 42, [.int .i64 u, .int .i64 l, sv (some q.2.1) (xs).length q.2.2.1, sv none (([] : List BeadMove)).length 0, .int .i64 (0)]), (some q.2.1, 35, flat encIntA2 (xs) ++ q.2.2.2), (none, 61, flat encBeadMove (([] : List BeadMove)) ++ ([] : List Value))]) (fun q => Sl 2 (some q.2.1) xs.length q.2.2.1 (flat encIntA2 xs) q.2.2.2) goes20 rfl (fun w1 hp => begin_yes u l xs _ _ zu zl hGxs (hsxs.ext hp.ext0) hg) rfl (fun qb hqb => ?_)
  obtain ⟨bw, br, rc, rp⟩ := qb
  have hsr0 : Sl 2 (some br) xs.length rc (flat encIntA2 xs) rp := hqb
  try dsimp only
  refine rl_val gw_none (ov_move rfl) rfl ?_
  refine rl_val gw_none (ov_extract rfl rfl) rfl ?_
  refine rl_val gw_none (ov_extract rfl rfl) rfl ?_
  refine rl_val gw_none (ov_assign rfl) rfl ?_
  refine rl_val gw_none (ov_assign rfl) rfl ?_
  refine rl_nil ?_
  refine at_then ?_
  refine ct_seq ?_
  refine ct_seq ?_
  refine ct_dr 22 (by kernel_rfl) (by kernel_rfl) ?_
  refine ql_val gw_none (ov_move rfl) rfl ?_
  refine ql_val gw_none (ov_not rfl) rfl ?_
  refine ql_val gw_none (ov_move rfl) rfl ?_
  refine ql_split (t := 17) rfl (fun g1 => ?_) (fun g1 => ?_)
  ·
    cases g1
  ·
    have g1' := g1
    try simp only [Bool.not_eq_true', Bool.not_eq_false', Bool.not_not, decide_eq_true_eq, decide_eq_false_iff_not, beq_iff_eq, beq_eq_false_iff_ne, bne_iff_ne, bne_eq_false_iff_eq, Bool.and_eq_true, Bool.or_eq_true, Bool.and_eq_false_iff, Bool.or_eq_false_iff, inB] at g1'
    first | refine ql_val (gw_some rfl rfl g1) (ov_loadall 3 ag28 rfl rfl rfl) rfl ?_ | refine ql_val (gw_some rfl rfl g1) (ov_loadp 3 ag28 rfl rfl (vs := [_, _, _]) rfl rfl) rfl ?_ | refine ql_val (gw_some rfl rfl g1) (ov_loada 3 ag28 rfl rfl rfl (by assumption)) rfl ?_
    refine ql_val (gw_some rfl rfl g1) (ov_move rfl) rfl ?_
    refine ql_callv (gw_some rfl rfl g1) goes21 rfl (fun w1 hp => hasRod_c u l xs _ _ _ zu zl hGxs (hsxs.ext hp.ext0)) rfl ?_
    refine ql_val (gw_some rfl rfl g1) (ov_not rfl) rfl ?_
    refine ql_val gw_none (ov_pick_f rfl g1 rfl) rfl ?_
    refine ql_val gw_none (ov_move rfl) rfl ?_
    refine ql_split (t := 23) rfl (fun g2 => ?_) (fun g2 => ?_)
    ·
      rw [hrb] at g2; cases g2
    ·
      have g2' := g2
      try simp only [Bool.not_eq_true', Bool.not_eq_false', Bool.not_not, decide_eq_true_eq, decide_eq_false_iff_not, beq_iff_eq, beq_eq_false_iff_ne, bne_iff_ne, bne_eq_false_iff_eq, Bool.and_eq_true, Bool.or_eq_true, Bool.and_eq_false_iff, Bool.or_eq_false_iff, inB] at g2'
      refine ql_val (gw_some rfl rfl g2) (ov_move rfl) rfl ?_
      refine ql_callv (gw_some rfl rfl g2) goes22 rfl (fun w1 hp => within_c _ _ _ _) rfl ?_
      refine ql_val (gw_some rfl rfl g2) (ov_not rfl) rfl ?_
      refine ql_val gw_none (ov_pick_f rfl g2 rfl) rfl ?_
      refine ql_val gw_none (ov_move rfl) rfl ?_
      refine ql_split (t := 28) rfl (fun g3 => ?_) (fun g3 => ?_)
      ·
        rw [hdb] at g3; cases g3
      ·
        have g3' := g3
        try simp only [Bool.not_eq_true', Bool.not_eq_false', Bool.not_not, decide_eq_true_eq, decide_eq_false_iff_not, beq_iff_eq, beq_eq_false_iff_ne, bne_iff_ne, bne_eq_false_iff_eq, Bool.and_eq_true, Bool.or_eq_true, Bool.and_eq_false_iff, Bool.or_eq_false_iff, inB] at g3'
        first | refine ql_val (gw_some rfl rfl g3) (ov_loadall 3 ag28 rfl rfl rfl) rfl ?_ | refine ql_val (gw_some rfl rfl g3) (ov_loadp 3 ag28 rfl rfl (vs := [_, _, _]) rfl rfl) rfl ?_ | refine ql_val (gw_some rfl rfl g3) (ov_loada 3 ag28 rfl rfl rfl (by assumption)) rfl ?_
        first | refine ql_val (gw_some rfl rfl g3) (ov_loadall 3 ag28 rfl rfl rfl) rfl ?_ | refine ql_val (gw_some rfl rfl g3) (ov_loadp 3 ag28 rfl rfl (vs := [_, _, _]) rfl rfl) rfl ?_ | refine ql_val (gw_some rfl rfl g3) (ov_loada 3 ag28 rfl rfl rfl (by assumption)) rfl ?_
        refine ql_val (gw_some rfl rfl g3) (ov_move rfl) rfl ?_
        refine ql_val (gw_some rfl rfl g3) (ov_move rfl) rfl ?_
        refine ql_callv (gw_some rfl rfl g3) goes24 rfl (fun w1 hp => placeValue_c u l xs _ rod d _ zu zl hGxs (hsxs.ext hp.ext0) hr hd h8) rfl ?_
        refine ql_callv (gw_some rfl rfl g3) goes23 rfl (fun w1 hp => canAdd_c u l xs _ (plc xs rod d) _ zu zl hGxs (hsxs.ext hp.ext0) hplc hf) rfl ?_
        refine ql_val (gw_some rfl rfl g3) (ov_not rfl) rfl ?_
        refine ql_val gw_none (ov_pick_f rfl g3 rfl) rfl ?_
        refine ql_nil ?_
        refine rl_nil ?_
        refine at_then ?_
        first | refine ct_dec rfl (fun h1 => ?_) (fun h1 => ?_) | refine ct_ndec rfl (fun h1 => ?_) (fun h1 => ?_) | refine ct_eq rfl (fun h1 => ?_) (fun h1 => ?_) | refine ct_ne rfl (fun h1 => ?_) (fun h1 => ?_) | refine ct_not rfl (fun h1 => ?_) (fun h1 => ?_) | refine ct_cond rfl (fun h1 => ?_) (fun h1 => ?_)
        ·
          rw [← hca] at h1; cases h1
        ·
          refine ct_skip ?_
          refine at_then ?_
          refine ct_seq ?_
          refine ct_reg ?_
          refine rl_val gw_none (ov_move rfl) rfl ?_
          refine rl_val gw_none (ov_move rfl) rfl ?_
          refine rl_val gw_none (ov_move rfl) rfl ?_
          refine rl_calld (ι := Option Nat × Nat × List Value × List BeadMove) (fun _ => .tuple #[]) [_, _, _] [_] (fun j => [(some bw, 42, [.int .i64 u, .int .i64 l, sv (some br) ((addS (rod.toNat + 1) xs d).1).length rc, sv j.1 (j.2.2.2).length j.2.1, .int .i64 (0 + ((addS (rod.toNat + 1) xs d).2 : Nat))]), (some br, 35, flat encIntA2 ((addS (rod.toNat + 1) xs d).1) ++ rp), (j.1, 61, flat encBeadMove (j.2.2.2) ++ j.2.2.1)]) (fun j => Sl 3 j.1 j.2.2.2.length j.2.1 (flat encBeadMove j.2.2.2) j.2.2.1 ∧ j.2.2.2.length ≤ (([] : List BeadMove)).length + 2 * (rod.toNat + 1) + 2) gw_none goes25 rfl (fun _ hq => (((hq).pull 2 rfl).pull 2 rfl).pull 2 rfl) (fun w1 hp h0 => add_c u l _ bw br xs rc rp none 0 [] [] rod.toNat _ d _ _ h0 hg hsr0 (Sl.nil0 _) (by simp) (by omega) hC (by omega)) rfl (fun jt ht => ?_)
          refine rl_nil ?_
          refine at_then ?_
          refine ct_seq ?_
          refine ct_reg ?_
          refine rl_val gw_none (ov_move rfl) rfl ?_
          refine rl_val gw_none (ov_assign rfl) rfl ?_
          refine rl_val gw_none (ov_assign rfl) rfl ?_
          refine rl_nil ?_
          refine at_then ?_
          refine ct_ret ?_
          refine at_ret2 Try.results13 (ro_tmp rfl) (ro_tmp rfl) (fun w1 hp => ?_)
          exact ⟨(bw, br, rc, rp, jt.1, jt.2.1, jt.2.2.1, jt.2.2.2), ⟨slSameG encIntA2_len hsr0 hSg.2.1, ht.1⟩, rfl, (Hp.sub (Hp.pull (Hp.pull (Hp.pull hp 2 rfl) 2 rfl) 2 rfl) (List.sublist_append_left [_, _, _] _))⟩
end Go.Proofs.Ytbmeoidbplecaaa
