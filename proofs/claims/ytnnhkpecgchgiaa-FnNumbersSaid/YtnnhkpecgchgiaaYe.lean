import Derived.Test.YtnnhkpecgchgiaaTd
import Derived.KernelRfl
set_option linter.unusedVariables false
set_option linter.unusedSimpArgs false
namespace Go.Proofs.Ytnnhkpecgchgiaa
open Go Go.RowKit K
theorem iHowOften_c (u : Int) (l : Int) (xs : List IntA2) (n : Int) (vxs : Value) (w : World) (zu : In64 u) (zl : In64 l) (hGxs : ∀ y ∈ xs, GIntA2 y) (hsxs : SR w 2 vxs xs.length (flat encIntA2 xs)) (zn : In64 n) : Calls Try.prog 66 ([.agg (List.toArray (α := Value) [.int .i64 u, .int .i64 l, vxs]), .int .i64 n]).toArray w (fun e w' => e = .returned (.tuple #[.int .i64 (howR u l xs n).1, .bool (howR u l xs n).2]) ∧ Ext w w') := by
  obtain ⟨axs, capxs, rfl, hcapxs, hmaxxs⟩ := hsxs.slice
  have hlenxs := hsxs.len_le
  refine calls_ct Try.func66 Try.ntmps66 rfl rfl ?_
  refine ct_seq ?_
  refine ct_reg ?_
  refine rl_box rfl rfl (fun N1 => ?_)
  refine rl_val gw_none (ov_assign rfl) rfl ?_
  refine rl_val gw_none (ov_assign rfl) rfl ?_
  refine rl_nil ?_
  refine at_then ?_
  refine ct_seq ?_
  refine ct_seq ?_
  refine ct_reg ?_
  first | refine rl_val gw_none (ov_loadall 0 ag26 rfl rfl rfl) rfl ?_ | refine rl_val gw_none (ov_loadp 0 ag26 rfl rfl (vs := [_, _, _]) rfl rfl) rfl ?_ | refine rl_val gw_none (ov_loada 0 ag26 rfl rfl rfl (by assumption)) rfl ?_
  refine rl_callx (ι := Value) (fun p => .tuple #[p, .bool (goodB u l xs)]) (fun _ => True) gw_none goes77 rfl (fun w1 hp => begin_x u l xs _ _ zu zl hGxs (hsxs.ext hp.ext0)) rfl (fun pb _ => ?_)
  refine rl_val gw_none (ov_move rfl) rfl ?_
  refine rl_val gw_none (ov_extract rfl rfl) rfl ?_
  refine rl_val gw_none (ov_extract rfl rfl) rfl ?_
  refine rl_val gw_none (ov_assign rfl) rfl ?_
  refine rl_val gw_none (ov_assign rfl) rfl ?_
  refine rl_nil ?_
  refine at_then ?_
  refine ct_seq ?_
  refine ct_reg ?_
  refine rl_val gw_none (ov_move rfl) rfl ?_
  refine rl_val gw_none (ov_not rfl) rfl ?_
  refine rl_val gw_none (ov_move rfl) rfl ?_
  refine rl_split (t := 15) rfl (fun g1 => ?_) (fun g1 => ?_)
  ·
    have g1' := g1
    try simp only [Bool.not_eq_true', Bool.not_eq_false', Bool.not_not, decide_eq_true_eq, decide_eq_false_iff_not, beq_iff_eq, beq_eq_false_iff_ne, bne_iff_ne, bne_eq_false_iff_eq, Bool.and_eq_true, Bool.or_eq_true, Bool.and_eq_false_iff, Bool.or_eq_false_iff, inB] at g1'
    refine rl_skip (gw_not rfl rfl g1) rfl ?_
    refine rl_skip (gw_not rfl rfl g1) rfl ?_
    refine rl_val gw_none (ov_pick_t rfl g1 rfl) rfl ?_
    refine rl_val gw_none (ov_move rfl) rfl ?_
    refine rl_skip (gw_not rfl rfl rfl) rfl ?_
    refine rl_skip (gw_not rfl rfl rfl) rfl ?_
    refine rl_skip (gw_not rfl rfl rfl) rfl ?_
    refine rl_skip (gw_not rfl rfl rfl) rfl ?_
    refine rl_skip (gw_not rfl rfl rfl) rfl ?_
    refine rl_val gw_none (ov_pick_t rfl rfl rfl) rfl ?_
    refine rl_nil ?_
    refine at_then ?_
    refine ct_true rfl rfl ?_
    refine ct_seq ?_
    refine ct_reg ?_
    refine rl_val gw_none (ov_assign rfl) rfl ?_
    refine rl_val gw_none (ov_assign rfl) rfl ?_
    refine rl_nil ?_
    refine at_then ?_
    refine ct_ret ?_
    refine at_then_ret ?_
    refine at_ret2 Try.results66 (ro_tmp rfl) (ro_tmp rfl) (fun w1 hp => ?_)
    refine ⟨?_, hp.ext0⟩
    first | (rw [howR_yes hg (by omega) (by first | omega | (simp_all; done))]; done) | (rw [howR_no (by simp_all; try omega)]; done) | (rw [howR_no (by rintro ⟨q1, q2, q3⟩; simp_all; try omega)]; done)
  ·
    have hg : goodB u l xs = true := by simpa using g1
    have hf := goodB_f hg
    have h8 := (frameB_ul hf).2.2.2
    have hl1 := (frameB_ul hf).2.2.1
    have hnb := numF_all hf
    refine rl_val (gw_some rfl rfl g1) (ov_move rfl) rfl ?_
    refine rl_val (gw_some rfl rfl g1) (ov_lss rfl rfl) rfl ?_
    refine rl_val gw_none (ov_pick_f rfl g1 rfl) rfl ?_
    refine rl_val gw_none (ov_move rfl) rfl ?_
    refine rl_split (t := 19) rfl (fun g2 => ?_) (fun g2 => ?_)
    ·
      have g2' := g2
      try simp only [Bool.not_eq_true', Bool.not_eq_false', Bool.not_not, decide_eq_true_eq, decide_eq_false_iff_not, beq_iff_eq, beq_eq_false_iff_ne, bne_iff_ne, bne_eq_false_iff_eq, Bool.and_eq_true, Bool.or_eq_true, Bool.and_eq_false_iff, Bool.or_eq_false_iff, inB] at g2'
      refine rl_skip (gw_not rfl rfl g2) rfl ?_
      refine rl_skip (gw_not rfl rfl g2) rfl ?_
      refine rl_skip (gw_not rfl rfl g2) rfl ?_
      refine rl_skip (gw_not rfl rfl g2) rfl ?_
      refine rl_skip (gw_not rfl rfl g2) rfl ?_
      refine rl_val gw_none (ov_pick_t rfl g2 rfl) rfl ?_
      refine rl_nil ?_
      refine at_then ?_
      refine ct_true rfl rfl ?_
      refine ct_seq ?_
      refine ct_reg ?_
      refine rl_val gw_none (ov_assign rfl) rfl ?_
      refine rl_val gw_none (ov_assign rfl) rfl ?_
      refine rl_nil ?_
      refine at_then ?_
      refine ct_ret ?_
      refine at_then_ret ?_
      refine at_ret2 Try.results66 (ro_tmp rfl) (ro_tmp rfl) (fun w1 hp => ?_)
      refine ⟨?_, hp.ext0⟩
      first | (rw [howR_yes hg (by omega) (by first | omega | (simp_all; done))]; done) | (rw [howR_no (by simp_all; try omega)]; done) | (rw [howR_no (by rintro ⟨q1, q2, q3⟩; simp_all; try omega)]; done)
    ·
      have hzn : n ≤ 9223372036854775807 := zn.2
      have hn1 : 1 ≤ n := by simpa using g2
      have hdb : 0 ≤ numF xs / n ∧ numF xs / n ≤ numF xs := ⟨Int.ediv_nonneg (by omega) (by omega), Int.ediv_le_self _ (by omega)⟩
      first | refine rl_val (gw_some rfl rfl g2) (ov_loadall 0 ag26 rfl rfl rfl) rfl ?_ | refine rl_val (gw_some rfl rfl g2) (ov_loadp 0 ag26 rfl rfl (vs := [_, _, _]) rfl rfl) rfl ?_ | refine rl_val (gw_some rfl rfl g2) (ov_loada 0 ag26 rfl rfl rfl (by assumption)) rfl ?_
      refine rl_callv (gw_some rfl rfl g2) goes88 rfl (fun w1 hp => number_c u l xs _ _ zu zl hGxs (hsxs.ext hp.ext0) hf) rfl ?_
      refine rl_val (gw_some rfl rfl g2) (ov_move rfl) rfl ?_
      refine rl_val (gw_some rfl rfl g2) (ov_quo rfl rfl (by omega) (by omega) (by omega)) rfl ?_
      refine rl_val (gw_some rfl rfl g2) (ov_gtr rfl rfl) rfl ?_
      refine rl_val gw_none (ov_pick_f rfl g2 rfl) rfl ?_
      refine rl_nil ?_
      refine at_then ?_
      first | refine ct_dec rfl (fun h1 => ?_) (fun h1 => ?_) | refine ct_ndec rfl (fun h1 => ?_) (fun h1 => ?_) | refine ct_eq rfl (fun h1 => ?_) (fun h1 => ?_) | refine ct_ne rfl (fun h1 => ?_) (fun h1 => ?_) | refine ct_not rfl (fun h1 => ?_) (fun h1 => ?_) | refine ct_cond rfl (fun h1 => ?_) (fun h1 => ?_)
      ·
        refine ct_seq ?_
        refine ct_reg ?_
        refine rl_val gw_none (ov_assign rfl) rfl ?_
        refine rl_val gw_none (ov_assign rfl) rfl ?_
        refine rl_nil ?_
        refine at_then ?_
        refine ct_ret ?_
        refine at_then_ret ?_
        refine at_ret2 Try.results66 (ro_tmp rfl) (ro_tmp rfl) (fun w1 hp => ?_)
        refine ⟨?_, hp.ext0⟩
        first | (rw [howR_yes hg (by omega) (by first | omega | (simp_all; done))]; done) | (rw [howR_no (by simp_all; try omega)]; done) | (rw [howR_no (by rintro ⟨q1, q2, q3⟩; simp_all; try omega)]; done)
      ·
        refine ct_skip ?_
        refine at_then ?_
        refine ct_seq ?_
        refine ct_reg ?_
        first | refine rl_val gw_none (ov_loadall 0 ag26 rfl rfl rfl) rfl ?_ | refine rl_val gw_none (ov_loadp 0 ag26 rfl rfl (vs := [_, _, _]) rfl rfl) rfl ?_ | refine rl_val gw_none (ov_loada 0 ag26 rfl rfl rfl (by assumption)) rfl ?_
        refine rl_callv gw_none goes88 rfl (fun w1 hp => number_c u l xs _ _ zu zl hGxs (hsxs.ext hp.ext0) hf) rfl ?_
        refine rl_val gw_none (ov_move rfl) rfl ?_
        refine rl_val gw_none (ov_quo rfl rfl (by omega) (by omega) (by omega)) rfl ?_
        refine rl_val gw_none (ov_assign rfl) rfl ?_
        refine rl_val gw_none (ov_assign rfl) rfl ?_
        refine rl_nil ?_
        refine at_then ?_
        refine ct_ret ?_
        refine at_ret2 Try.results66 (ro_tmp rfl) (ro_tmp rfl) (fun w1 hp => ?_)
        refine ⟨?_, hp.ext0⟩
        first | (rw [howR_yes hg (by omega) (by first | omega | (simp_all; done))]; done) | (rw [howR_no (by simp_all; try omega)]; done) | (rw [howR_no (by rintro ⟨q1, q2, q3⟩; simp_all; try omega)]; done)

theorem sHowOften_c (u : Int) (l : Int) (xs : List IntA2) (n : Int) (vxs : Value) (w : World) (zu : In64 u) (zl : In64 l) (hGxs : ∀ y ∈ xs, GIntA2 y) (hsxs : SR w 2 vxs xs.length (flat encIntA2 xs)) (zn : In64 n) : Calls Try.prog 68 ([.agg (List.toArray (α := Value) [.int .i64 u, .int .i64 l, vxs]), .int .i64 n]).toArray w (fun e w' => e = .returned (.tuple #[.int .i64 (howR u l xs n).1, .bool (howR u l xs n).2]) ∧ Ext w w') := by
  obtain ⟨axs, capxs, rfl, hcapxs, hmaxxs⟩ := hsxs.slice
  have hlenxs := hsxs.len_le
  refine calls_ct Try.func68 Try.ntmps68 rfl rfl ?_
  refine ct_seq ?_
  refine ct_reg ?_
  refine rl_box rfl rfl (fun N1 => ?_)
  refine rl_val gw_none (ov_assign rfl) rfl ?_
  refine rl_val gw_none (ov_assign rfl) rfl ?_
  refine rl_nil ?_
  refine at_then ?_
  refine ct_seq ?_
  refine ct_seq ?_
  refine ct_reg ?_
  first | refine rl_val gw_none (ov_loadall 0 ag26 rfl rfl rfl) rfl ?_ | refine rl_val gw_none (ov_loadp 0 ag26 rfl rfl (vs := [_, _, _]) rfl rfl) rfl ?_ | refine rl_val gw_none (ov_loada 0 ag26 rfl rfl rfl (by assumption)) rfl ?_
  refine rl_callv gw_none goes74 rfl (fun w1 hp => l2Standard_c u l xs _ _ zu zl hGxs (hsxs.ext hp.ext0)) rfl ?_
  refine rl_val gw_none (ov_not rfl) rfl ?_
  refine rl_val gw_none (ov_move rfl) rfl ?_
  refine rl_split (t := 9) rfl (fun g1 => ?_) (fun g1 => ?_)
  ·
    have g1' := g1
    try simp only [Bool.not_eq_true', Bool.not_eq_false', Bool.not_not, decide_eq_true_eq, decide_eq_false_iff_not, beq_iff_eq, beq_eq_false_iff_ne, bne_iff_ne, bne_eq_false_iff_eq, Bool.and_eq_true, Bool.or_eq_true, Bool.and_eq_false_iff, Bool.or_eq_false_iff, inB] at g1'
    refine rl_skip (gw_not rfl rfl g1) rfl ?_
    refine rl_skip (gw_not rfl rfl g1) rfl ?_
    refine rl_val gw_none (ov_pick_t rfl g1 rfl) rfl ?_
    refine rl_val gw_none (ov_move rfl) rfl ?_
    refine rl_skip (gw_not rfl rfl rfl) rfl ?_
    refine rl_skip (gw_not rfl rfl rfl) rfl ?_
    refine rl_skip (gw_not rfl rfl rfl) rfl ?_
    refine rl_skip (gw_not rfl rfl rfl) rfl ?_
    refine rl_skip (gw_not rfl rfl rfl) rfl ?_
    refine rl_val gw_none (ov_pick_t rfl rfl rfl) rfl ?_
    refine rl_nil ?_
    refine at_then ?_
    refine ct_true rfl rfl ?_
    refine ct_seq ?_
    refine ct_reg ?_
    refine rl_val gw_none (ov_assign rfl) rfl ?_
    refine rl_val gw_none (ov_assign rfl) rfl ?_
    refine rl_nil ?_
    refine at_then ?_
    refine ct_ret ?_
    refine at_then_ret ?_
    refine at_ret2 Try.results68 (ro_tmp rfl) (ro_tmp rfl) (fun w1 hp => ?_)
    refine ⟨?_, hp.ext0⟩
    first | (rw [howR_yes hg (by omega) (by first | omega | (simp_all; done))]; done) | (rw [howR_no (by simp_all; try omega)]; done) | (rw [howR_no (by rintro ⟨q1, q2, q3⟩; simp_all; try omega)]; done)
  ·
    have hg : goodB u l xs = true := by simpa using g1
    have hf := goodB_f hg
    have h8 := (frameB_ul hf).2.2.2
    have hl1 := (frameB_ul hf).2.2.1
    have hnb := numF_all hf
    refine rl_val (gw_some rfl rfl g1) (ov_move rfl) rfl ?_
    refine rl_val (gw_some rfl rfl g1) (ov_lss rfl rfl) rfl ?_
    refine rl_val gw_none (ov_pick_f rfl g1 rfl) rfl ?_
    refine rl_val gw_none (ov_move rfl) rfl ?_
    refine rl_split (t := 13) rfl (fun g2 => ?_) (fun g2 => ?_)
    ·
      have g2' := g2
      try simp only [Bool.not_eq_true', Bool.not_eq_false', Bool.not_not, decide_eq_true_eq, decide_eq_false_iff_not, beq_iff_eq, beq_eq_false_iff_ne, bne_iff_ne, bne_eq_false_iff_eq, Bool.and_eq_true, Bool.or_eq_true, Bool.and_eq_false_iff, Bool.or_eq_false_iff, inB] at g2'
      refine rl_skip (gw_not rfl rfl g2) rfl ?_
      refine rl_skip (gw_not rfl rfl g2) rfl ?_
      refine rl_skip (gw_not rfl rfl g2) rfl ?_
      refine rl_skip (gw_not rfl rfl g2) rfl ?_
      refine rl_skip (gw_not rfl rfl g2) rfl ?_
      refine rl_val gw_none (ov_pick_t rfl g2 rfl) rfl ?_
      refine rl_nil ?_
      refine at_then ?_
      refine ct_true rfl rfl ?_
      refine ct_seq ?_
      refine ct_reg ?_
      refine rl_val gw_none (ov_assign rfl) rfl ?_
      refine rl_val gw_none (ov_assign rfl) rfl ?_
      refine rl_nil ?_
      refine at_then ?_
      refine ct_ret ?_
      refine at_then_ret ?_
      refine at_ret2 Try.results68 (ro_tmp rfl) (ro_tmp rfl) (fun w1 hp => ?_)
      refine ⟨?_, hp.ext0⟩
      first | (rw [howR_yes hg (by omega) (by first | omega | (simp_all; done))]; done) | (rw [howR_no (by simp_all; try omega)]; done) | (rw [howR_no (by rintro ⟨q1, q2, q3⟩; simp_all; try omega)]; done)
    ·
      have hzn : n ≤ 9223372036854775807 := zn.2
      have hn1 : 1 ≤ n := by simpa using g2
      have hdb : 0 ≤ numF xs / n ∧ numF xs / n ≤ numF xs := ⟨Int.ediv_nonneg (by omega) (by omega), Int.ediv_le_self _ (by omega)⟩
      first | refine rl_val (gw_some rfl rfl g2) (ov_loadall 0 ag26 rfl rfl rfl) rfl ?_ | refine rl_val (gw_some rfl rfl g2) (ov_loadp 0 ag26 rfl rfl (vs := [_, _, _]) rfl rfl) rfl ?_ | refine rl_val (gw_some rfl rfl g2) (ov_loada 0 ag26 rfl rfl rfl (by assumption)) rfl ?_
      refine rl_callv (gw_some rfl rfl g2) goes127 rfl (fun w1 hp => l2Number_c u l xs _ _ zu zl hGxs (hsxs.ext hp.ext0) hf) rfl ?_
      refine rl_val (gw_some rfl rfl g2) (ov_move rfl) rfl ?_
      refine rl_val (gw_some rfl rfl g2) (ov_quo rfl rfl (by omega) (by omega) (by omega)) rfl ?_
      refine rl_val (gw_some rfl rfl g2) (ov_gtr rfl rfl) rfl ?_
      refine rl_val gw_none (ov_pick_f rfl g2 rfl) rfl ?_
      refine rl_nil ?_
      refine at_then ?_
      first | refine ct_dec rfl (fun h1 => ?_) (fun h1 => ?_) | refine ct_ndec rfl (fun h1 => ?_) (fun h1 => ?_) | refine ct_eq rfl (fun h1 => ?_) (fun h1 => ?_) | refine ct_ne rfl (fun h1 => ?_) (fun h1 => ?_) | refine ct_not rfl (fun h1 => ?_) (fun h1 => ?_) | refine ct_cond rfl (fun h1 => ?_) (fun h1 => ?_)
      ·
        refine ct_seq ?_
        refine ct_reg ?_
        refine rl_val gw_none (ov_assign rfl) rfl ?_
        refine rl_val gw_none (ov_assign rfl) rfl ?_
        refine rl_nil ?_
        refine at_then ?_
        refine ct_ret ?_
        refine at_then_ret ?_
        refine at_ret2 Try.results68 (ro_tmp rfl) (ro_tmp rfl) (fun w1 hp => ?_)
        refine ⟨?_, hp.ext0⟩
        first | (rw [howR_yes hg (by omega) (by first | omega | (simp_all; done))]; done) | (rw [howR_no (by simp_all; try omega)]; done) | (rw [howR_no (by rintro ⟨q1, q2, q3⟩; simp_all; try omega)]; done)
      ·
        refine ct_skip ?_
        refine at_then ?_
        refine ct_seq ?_
        refine ct_reg ?_
        first | refine rl_val gw_none (ov_loadall 0 ag26 rfl rfl rfl) rfl ?_ | refine rl_val gw_none (ov_loadp 0 ag26 rfl rfl (vs := [_, _, _]) rfl rfl) rfl ?_ | refine rl_val gw_none (ov_loada 0 ag26 rfl rfl rfl (by assumption)) rfl ?_
        refine rl_callv gw_none goes127 rfl (fun w1 hp => l2Number_c u l xs _ _ zu zl hGxs (hsxs.ext hp.ext0) hf) rfl ?_
        refine rl_val gw_none (ov_move rfl) rfl ?_
        refine rl_val gw_none (ov_quo rfl rfl (by omega) (by omega) (by omega)) rfl ?_
        refine rl_val gw_none (ov_assign rfl) rfl ?_
        refine rl_val gw_none (ov_assign rfl) rfl ?_
        refine rl_nil ?_
        refine at_then ?_
        refine ct_ret ?_
        refine at_ret2 Try.results68 (ro_tmp rfl) (ro_tmp rfl) (fun w1 hp => ?_)
        refine ⟨?_, hp.ext0⟩
        first | (rw [howR_yes hg (by omega) (by first | omega | (simp_all; done))]; done) | (rw [howR_no (by simp_all; try omega)]; done) | (rw [howR_no (by rintro ⟨q1, q2, q3⟩; simp_all; try omega)]; done)

theorem iCountDown_c (u : Int) (l : Int) (xs : List IntA2) (n : Int) (vxs : Value) (w : World) (zu : In64 u) (zl : In64 l) (hGxs : ∀ y ∈ xs, GIntA2 y) (hsxs : SR w 2 vxs xs.length (flat encIntA2 xs)) (zn : In64 n) : Calls Try.prog 63 ([.agg (List.toArray (α := Value) [.int .i64 u, .int .i64 l, vxs]), .int .i64 n]).toArray w (fun e w' => RetSl 3 1 (ints (cdR u l xs n)) ((cdR u l xs n).length) (fun s => .tuple #[s, .bool (cdB u l xs n)]) w e w') := by
  obtain ⟨axs, capxs, rfl, hcapxs, hmaxxs⟩ := hsxs.slice
  have hlenxs := hsxs.len_le
  refine calls_ct Try.func63 Try.ntmps63 rfl rfl ?_
  refine ct_seq ?_
  refine ct_reg ?_
  refine rl_box rfl rfl (fun N1 => ?_)
  refine rl_val gw_none (ov_assign rfl) rfl ?_
  refine rl_val gw_none (ov_assign rfl) rfl ?_
  refine rl_nil ?_
  refine at_then ?_
  refine ct_seq ?_
  refine ct_seq ?_
  refine ct_reg ?_
  first | refine rl_val gw_none (ov_loadall 0 ag26 rfl rfl rfl) rfl ?_ | refine rl_val gw_none (ov_loadp 0 ag26 rfl rfl (vs := [_, _, _]) rfl rfl) rfl ?_ | refine rl_val gw_none (ov_loada 0 ag26 rfl rfl rfl (by assumption)) rfl ?_
  refine rl_callx (ι := Value) (fun p => .tuple #[p, .bool (goodB u l xs)]) (fun _ => True) gw_none goes77 rfl (fun w1 hp => begin_x u l xs _ _ zu zl hGxs (hsxs.ext hp.ext0)) rfl (fun pb _ => ?_)
  refine rl_val gw_none (ov_move rfl) rfl ?_
  refine rl_val gw_none (ov_extract rfl rfl) rfl ?_
  refine rl_val gw_none (ov_extract rfl rfl) rfl ?_
  refine rl_val gw_none (ov_assign rfl) rfl ?_
  refine rl_val gw_none (ov_assign rfl) rfl ?_
  refine rl_nil ?_
  refine at_then ?_
  refine ct_seq ?_
  refine ct_reg ?_
  refine rl_val gw_none (ov_move rfl) rfl ?_
  refine rl_val gw_none (ov_not rfl) rfl ?_
  refine rl_val gw_none (ov_move rfl) rfl ?_
  refine rl_split (t := 17) rfl (fun g1 => ?_) (fun g1 => ?_)
  ·
    have g1' := g1
    try simp only [Bool.not_eq_true', Bool.not_eq_false', Bool.not_not, decide_eq_true_eq, decide_eq_false_iff_not, beq_iff_eq, beq_eq_false_iff_ne, bne_iff_ne, bne_eq_false_iff_eq, Bool.and_eq_true, Bool.or_eq_true, Bool.and_eq_false_iff, Bool.or_eq_false_iff, inB] at g1'
    refine rl_skip (gw_not rfl rfl g1) rfl ?_
    refine rl_skip (gw_not rfl rfl g1) rfl ?_
    refine rl_val gw_none (ov_pick_t rfl g1 rfl) rfl ?_
    refine rl_val gw_none (ov_move rfl) rfl ?_
    refine rl_skip (gw_not rfl rfl rfl) rfl ?_
    refine rl_skip (gw_not rfl rfl rfl) rfl ?_
    refine rl_skip (gw_not rfl rfl rfl) rfl ?_
    refine rl_skip (gw_not rfl rfl rfl) rfl ?_
    refine rl_skip (gw_not rfl rfl rfl) rfl ?_
    refine rl_val gw_none (ov_pick_t rfl rfl rfl) rfl ?_
    refine rl_nil ?_
    refine at_then ?_
    refine ct_true rfl rfl ?_
    refine ct_seq ?_
    refine ct_reg ?_
    refine rl_val gw_none (ov_assign rfl) rfl ?_
    refine rl_val gw_none (ov_assign rfl) rfl ?_
    refine rl_nil ?_
    refine at_then ?_
    refine ct_ret ?_
    refine at_then_ret ?_
    refine at_ret2 Try.results63 (ro_tmp rfl) (ro_tmp rfl) (fun w1 hp => ?_)
    first | (rw [cdR_no (show cdB u l xs n = false from (by unfold cdB; first | (simp_all; done) | (simp_all; intros; omega))), show cdB u l xs n = false from (by unfold cdB; first | (simp_all; done) | (simp_all; intros; omega))]; first | exact RetSl.nil hp.ext0 | exact RetSl.lit 0 hp rfl rfl (by decide) | exact RetSl.lit 0 hp rfl rfl (by decide)) | (have hc : cdB u l xs n = true := (by unfold cdB; simp_all); rw [cdR_yes hc, hc, ← hke]; exact RetSl.own 999 hp rfl hsl)
  ·
    have hg : goodB u l xs = true := by simpa using g1
    have hf := goodB_f hg
    have h8 := (frameB_ul hf).2.2.2
    have hl1 := (frameB_ul hf).2.2.1
    have hnb := numF_all hf
    refine rl_val (gw_some rfl rfl g1) (ov_move rfl) rfl ?_
    refine rl_val (gw_some rfl rfl g1) (ov_lss rfl rfl) rfl ?_
    refine rl_val gw_none (ov_pick_f rfl g1 rfl) rfl ?_
    refine rl_val gw_none (ov_move rfl) rfl ?_
    refine rl_split (t := 21) rfl (fun g2 => ?_) (fun g2 => ?_)
    ·
      have g2' := g2
      try simp only [Bool.not_eq_true', Bool.not_eq_false', Bool.not_not, decide_eq_true_eq, decide_eq_false_iff_not, beq_iff_eq, beq_eq_false_iff_ne, bne_iff_ne, bne_eq_false_iff_eq, Bool.and_eq_true, Bool.or_eq_true, Bool.and_eq_false_iff, Bool.or_eq_false_iff, inB] at g2'
      refine rl_skip (gw_not rfl rfl g2) rfl ?_
      refine rl_skip (gw_not rfl rfl g2) rfl ?_
      refine rl_skip (gw_not rfl rfl g2) rfl ?_
      refine rl_skip (gw_not rfl rfl g2) rfl ?_
      refine rl_skip (gw_not rfl rfl g2) rfl ?_
      refine rl_val gw_none (ov_pick_t rfl g2 rfl) rfl ?_
      refine rl_nil ?_
      refine at_then ?_
      refine ct_true rfl rfl ?_
      refine ct_seq ?_
      refine ct_reg ?_
      refine rl_val gw_none (ov_assign rfl) rfl ?_
      refine rl_val gw_none (ov_assign rfl) rfl ?_
      refine rl_nil ?_
      refine at_then ?_
      refine ct_ret ?_
      refine at_then_ret ?_
      refine at_ret2 Try.results63 (ro_tmp rfl) (ro_tmp rfl) (fun w1 hp => ?_)
      first | (rw [cdR_no (show cdB u l xs n = false from (by unfold cdB; first | (simp_all; done) | (simp_all; intros; omega))), show cdB u l xs n = false from (by unfold cdB; first | (simp_all; done) | (simp_all; intros; omega))]; first | exact RetSl.nil hp.ext0 | exact RetSl.lit 0 hp rfl rfl (by decide) | exact RetSl.lit 0 hp rfl rfl (by decide)) | (have hc : cdB u l xs n = true := (by unfold cdB; simp_all); rw [cdR_yes hc, hc, ← hke]; exact RetSl.own 999 hp rfl hsl)
    ·
      have hzn : n ≤ 9223372036854775807 := zn.2
      have hn1 : 1 ≤ n := by simpa using g2
      have hdb : 0 ≤ numF xs / n ∧ numF xs / n ≤ numF xs := ⟨Int.ediv_nonneg (by omega) (by omega), Int.ediv_le_self _ (by omega)⟩
      first | refine rl_val (gw_some rfl rfl g2) (ov_loadall 0 ag26 rfl rfl rfl) rfl ?_ | refine rl_val (gw_some rfl rfl g2) (ov_loadp 0 ag26 rfl rfl (vs := [_, _, _]) rfl rfl) rfl ?_ | refine rl_val (gw_some rfl rfl g2) (ov_loada 0 ag26 rfl rfl rfl (by assumption)) rfl ?_
      refine rl_callv (gw_some rfl rfl g2) goes88 rfl (fun w1 hp => number_c u l xs _ _ zu zl hGxs (hsxs.ext hp.ext0) hf) rfl ?_
      refine rl_val (gw_some rfl rfl g2) (ov_move rfl) rfl ?_
      refine rl_val (gw_some rfl rfl g2) (ov_quo rfl rfl (by omega) (by omega) (by omega)) rfl ?_
      refine rl_val (gw_some rfl rfl g2) (ov_gtr rfl rfl) rfl ?_
      refine rl_val gw_none (ov_pick_f rfl g2 rfl) rfl ?_
      refine rl_nil ?_
      refine at_then ?_
      first | refine ct_dec rfl (fun h1 => ?_) (fun h1 => ?_) | refine ct_ndec rfl (fun h1 => ?_) (fun h1 => ?_) | refine ct_eq rfl (fun h1 => ?_) (fun h1 => ?_) | refine ct_ne rfl (fun h1 => ?_) (fun h1 => ?_) | refine ct_not rfl (fun h1 => ?_) (fun h1 => ?_) | refine ct_cond rfl (fun h1 => ?_) (fun h1 => ?_)
      ·
        refine ct_seq ?_
        refine ct_reg ?_
        refine rl_val gw_none (ov_assign rfl) rfl ?_
        refine rl_val gw_none (ov_assign rfl) rfl ?_
        refine rl_nil ?_
        refine at_then ?_
        refine ct_ret ?_
        refine at_then_ret ?_
        refine at_ret2 Try.results63 (ro_tmp rfl) (ro_tmp rfl) (fun w1 hp => ?_)
        first | (rw [cdR_no (show cdB u l xs n = false from (by unfold cdB; first | (simp_all; done) | (simp_all; intros; omega))), show cdB u l xs n = false from (by unfold cdB; first | (simp_all; done) | (simp_all; intros; omega))]; first | exact RetSl.nil hp.ext0 | exact RetSl.lit 0 hp rfl rfl (by decide) | exact RetSl.lit 0 hp rfl rfl (by decide)) | (have hc : cdB u l xs n = true := (by unfold cdB; simp_all); rw [cdR_yes hc, hc, ← hke]; exact RetSl.own 999 hp rfl hsl)
      ·
        have hdv : numF xs / n ≤ 50 := by simpa using h1
        refine ct_skip ?_
        refine at_then ?_
        refine ct_seq ?_
        refine ct_reg ?_
        refine rl_val gw_none (ov_assign rfl) rfl ?_
        refine rl_nil ?_
        refine at_then ?_
        refine ct_seq ?_
        refine ct_seq ?_
        refine ct_reg ?_
        first | refine rl_val gw_none (ov_loadall 0 ag26 rfl rfl rfl) rfl ?_ | refine rl_val gw_none (ov_loadp 0 ag26 rfl rfl (vs := [_, _, _]) rfl rfl) rfl ?_ | refine rl_val gw_none (ov_loada 0 ag26 rfl rfl rfl (by assumption)) rfl ?_
        refine rl_callv gw_none goes88 rfl (fun w1 hp => number_c u l xs _ _ zu zl hGxs (hsxs.ext hp.ext0) hf) rfl ?_
        refine rl_val gw_none (ov_move rfl) rfl ?_
        refine rl_val gw_none (ov_sub rfl rfl (by omega)) rfl ?_
        refine rl_val gw_none (ov_assign rfl) rfl ?_
        refine rl_nil ?_
        refine at_then ?_
        refine ct_block ?_
        refine ct_loopR (ι := Nat × Option Nat × Nat × List Value) (fun p0 => [(8, sv p0.2.1 (cdL (numF xs) n p0.1).length p0.2.2.1), (9, .int .i64 (numF xs - n * ((p0.1 : Int) + 1)))]) [(1, _), (4, _), (5, _)] (fun p0 => (p0.2.1, 3, ints (cdL (numF xs) n p0.1) ++ p0.2.2.2) :: _) (fun p0 => (p0.1 : Int) ≤ numF xs / n ∧ Sl 1 p0.2.1 (cdL (numF xs) n p0.1).length p0.2.2.1 (ints (cdL (numF xs) n p0.1)) p0.2.2.2) (fun p0 => 50 - p0.1) ((0, none, 0, [])) (Sub.cons rfl (Sub.cons rfl (Sub.cons rfl Sub.nil))) (fun _ hq => hq.nil 3) (by dsimp only; (repeat' (first | exact Sub.nil | refine Sub.cons ?_ ?_)); all_goals (first | rfl | exact lkInt rfl (by omega))) ⟨Int.ediv_nonneg (by omega) (by omega), Sl.nil0 _⟩ (fun p0 hp0 => ?_)
        obtain ⟨k, bo, cap, pad⟩ := p0
        obtain ⟨hk, hsl⟩ := hp0
        dsimp only at hk hsl
        try dsimp only
        have hal := cdL_len (numF xs) n k
        have hmn : 0 ≤ n * ((k : Int) + 1) := Int.mul_nonneg (by omega) (by omega)
        have hst := cd_step (numF xs) n k
        refine ct_seq ?_
        refine ct_seq ?_
        refine ct_reg ?_
        refine rl_val gw_none (ov_move rfl) rfl ?_
        refine rl_val gw_none (ov_geq rfl rfl) rfl ?_
        refine rl_nil ?_
        refine at_then ?_
        first | refine ct_dec rfl (fun h2 => ?_) (fun h2 => ?_) | refine ct_ndec rfl (fun h2 => ?_) (fun h2 => ?_) | refine ct_eq rfl (fun h2 => ?_) (fun h2 => ?_) | refine ct_ne rfl (fun h2 => ?_) (fun h2 => ?_) | refine ct_not rfl (fun h2 => ?_) (fun h2 => ?_) | refine ct_cond rfl (fun h2 => ?_) (fun h2 => ?_)
        ·
          have hge := h2
          refine ct_skip ?_
          refine at_then ?_
          refine ct_seq ?_
          refine ct_block ?_
          refine ct_reg ?_
          refine rl_val gw_none (ov_move rfl) rfl ?_
          refine rl_val gw_none (ov_move rfl) rfl ?_
          refine rl_bslice Try.underlying27 ze3 sz3 rfl rfl rfl rfl rfl rfl (fun N2 => ?_)
          refine rl_appT (ints) (ints_append) [_] (acc := cdL (numF xs) n k) Try.underlying27 ze3 sz3 rfl rfl by3 rfl rfl rfl hsl ([numF xs - n * ((k : Int) + 1)]) rfl (fun w1 hp => hp.sr1 0 rfl rfl (by decide)) (ints_one _) (by unfold maxLen; omega) (by omega) rfl (fun boq1 capq1 padq1 hsq1 => ?_)
          refine rl_val gw_none (ov_assign rfl) rfl ?_
          refine rl_nil ?_
          refine at_block ?_
          refine at_then ?_
          refine ct_reg ?_
          refine rl_val gw_none (ov_move rfl) rfl ?_
          refine rl_val gw_none (ov_move rfl) rfl ?_
          refine rl_val gw_none (ov_sub rfl rfl (by omega)) rfl ?_
          refine rl_val gw_none (ov_assign rfl) rfl ?_
          refine rl_nil ?_
          have hts := cdL_snoc (numF xs) n k
          have hk2 := cd_next hn1 (show 0 ≤ numF xs - n * ((k : Int) + 1) by simpa using hge)
          exact at_backR (k + 1, boq1, capq1, padq1) ⟨by dsimp only; omega, by dsimp only; rw [hts]; exact hsq1⟩ (by dsimp only; omega) (by dsimp only; rw [hts]; (repeat' (first | exact Sub.nil | refine Sub.cons ?_ ?_)); all_goals (first | rfl | exact lkInt rfl (by omega))) (Sub.cons rfl (Sub.cons rfl (Sub.cons rfl Sub.nil))) (fun _ hq => (hq.drop).cong (by dsimp only; rw [hts]; try rfl))
        ·
          have hke := cd_end hn1 hk (by simpa using h2)
          refine ct_exit ?_
          refine at_then_exit ?_
          refine at_then_exit ?_
          refine at_block_hit ?_
          refine at_then ?_
          refine ct_seq ?_
          refine ct_reg ?_
          refine rl_val gw_none (ov_move rfl) rfl ?_
          refine rl_val gw_none (ov_assign rfl) rfl ?_
          refine rl_val gw_none (ov_assign rfl) rfl ?_
          refine rl_nil ?_
          refine at_then ?_
          refine ct_ret ?_
          refine at_ret2 Try.results63 (ro_tmp rfl) (ro_tmp rfl) (fun w1 hp => ?_)
          first | (rw [cdR_no (show cdB u l xs n = false from (by unfold cdB; first | (simp_all; done) | (simp_all; intros; omega))), show cdB u l xs n = false from (by unfold cdB; first | (simp_all; done) | (simp_all; intros; omega))]; first | exact RetSl.nil hp.ext0 | exact RetSl.lit 999 hp rfl rfl (by decide) | exact RetSl.lit 0 hp rfl rfl (by decide)) | (have hc : cdB u l xs n = true := (by unfold cdB; simp_all); rw [cdR_yes hc, hc, ← hke]; exact RetSl.own 0 hp rfl hsl)

theorem sCountDown_c (u : Int) (l : Int) (xs : List IntA2) (n : Int) (vxs : Value) (w : World) (zu : In64 u) (zl : In64 l) (hGxs : ∀ y ∈ xs, GIntA2 y) (hsxs : SR w 2 vxs xs.length (flat encIntA2 xs)) (zn : In64 n) : Calls Try.prog 64 ([.agg (List.toArray (α := Value) [.int .i64 u, .int .i64 l, vxs]), .int .i64 n]).toArray w (fun e w' => RetSl 3 1 (ints (cdR u l xs n)) ((cdR u l xs n).length) (fun s => .tuple #[s, .bool (cdB u l xs n)]) w e w') := by
  obtain ⟨axs, capxs, rfl, hcapxs, hmaxxs⟩ := hsxs.slice
  have hlenxs := hsxs.len_le
  refine calls_ct Try.func64 Try.ntmps64 rfl rfl ?_
  refine ct_seq ?_
  refine ct_reg ?_
  refine rl_box rfl rfl (fun N1 => ?_)
  refine rl_val gw_none (ov_assign rfl) rfl ?_
  refine rl_val gw_none (ov_assign rfl) rfl ?_
  refine rl_nil ?_
  refine at_then ?_
  refine ct_seq ?_
  refine ct_reg ?_
  refine rl_bslice Try.underlying27 ze3 sz3 rfl rfl rfl rfl rfl rfl (fun N2 => ?_)
  refine rl_val gw_none (ov_assign rfl) rfl ?_
  refine rl_nil ?_
  refine at_then ?_
  refine ct_seq ?_
  refine ct_seq ?_
  refine ct_reg ?_
  first | refine rl_val gw_none (ov_loadall 1 ag26 rfl rfl rfl) rfl ?_ | refine rl_val gw_none (ov_loadp 1 ag26 rfl rfl (vs := [_, _, _]) rfl rfl) rfl ?_ | refine rl_val gw_none (ov_loada 1 ag26 rfl rfl rfl (by assumption)) rfl ?_
  refine rl_callv gw_none goes74 rfl (fun w1 hp => l2Standard_c u l xs _ _ zu zl hGxs (hsxs.ext hp.ext0)) rfl ?_
  refine rl_val gw_none (ov_not rfl) rfl ?_
  refine rl_val gw_none (ov_move rfl) rfl ?_
  refine rl_split (t := 12) rfl (fun g1 => ?_) (fun g1 => ?_)
  ·
    have g1' := g1
    try simp only [Bool.not_eq_true', Bool.not_eq_false', Bool.not_not, decide_eq_true_eq, decide_eq_false_iff_not, beq_iff_eq, beq_eq_false_iff_ne, bne_iff_ne, bne_eq_false_iff_eq, Bool.and_eq_true, Bool.or_eq_true, Bool.and_eq_false_iff, Bool.or_eq_false_iff, inB] at g1'
    refine rl_skip (gw_not rfl rfl g1) rfl ?_
    refine rl_skip (gw_not rfl rfl g1) rfl ?_
    refine rl_val gw_none (ov_pick_t rfl g1 rfl) rfl ?_
    refine rl_val gw_none (ov_move rfl) rfl ?_
    refine rl_skip (gw_not rfl rfl rfl) rfl ?_
    refine rl_skip (gw_not rfl rfl rfl) rfl ?_
    refine rl_skip (gw_not rfl rfl rfl) rfl ?_
    refine rl_skip (gw_not rfl rfl rfl) rfl ?_
    refine rl_skip (gw_not rfl rfl rfl) rfl ?_
    refine rl_val gw_none (ov_pick_t rfl rfl rfl) rfl ?_
    refine rl_nil ?_
    refine at_then ?_
    refine ct_true rfl rfl ?_
    refine ct_seq ?_
    refine ct_reg ?_
    refine rl_val gw_none (ov_move rfl) rfl ?_
    refine rl_val gw_none (ov_assign rfl) rfl ?_
    refine rl_val gw_none (ov_assign rfl) rfl ?_
    refine rl_nil ?_
    refine at_then ?_
    refine ct_ret ?_
    refine at_then_ret ?_
    refine at_ret2 Try.results64 (ro_tmp rfl) (ro_tmp rfl) (fun w1 hp => ?_)
    first | (rw [cdR_no (show cdB u l xs n = false from (by unfold cdB; first | (simp_all; done) | (simp_all; intros; omega))), show cdB u l xs n = false from (by unfold cdB; first | (simp_all; done) | (simp_all; intros; omega))]; first | exact RetSl.nil hp.ext0 | exact RetSl.lit 1 hp rfl rfl (by decide) | exact RetSl.lit 0 hp rfl rfl (by decide)) | (have hc : cdB u l xs n = true := (by unfold cdB; simp_all); rw [cdR_yes hc, hc, ← hke]; exact RetSl.own 999 hp rfl hsl)
  ·
    have hg : goodB u l xs = true := by simpa using g1
    have hf := goodB_f hg
    have h8 := (frameB_ul hf).2.2.2
    have hl1 := (frameB_ul hf).2.2.1
    have hnb := numF_all hf
    refine rl_val (gw_some rfl rfl g1) (ov_move rfl) rfl ?_
    refine rl_val (gw_some rfl rfl g1) (ov_lss rfl rfl) rfl ?_
    refine rl_val gw_none (ov_pick_f rfl g1 rfl) rfl ?_
    refine rl_val gw_none (ov_move rfl) rfl ?_
    refine rl_split (t := 16) rfl (fun g2 => ?_) (fun g2 => ?_)
    ·
      have g2' := g2
      try simp only [Bool.not_eq_true', Bool.not_eq_false', Bool.not_not, decide_eq_true_eq, decide_eq_false_iff_not, beq_iff_eq, beq_eq_false_iff_ne, bne_iff_ne, bne_eq_false_iff_eq, Bool.and_eq_true, Bool.or_eq_true, Bool.and_eq_false_iff, Bool.or_eq_false_iff, inB] at g2'
      refine rl_skip (gw_not rfl rfl g2) rfl ?_
      refine rl_skip (gw_not rfl rfl g2) rfl ?_
      refine rl_skip (gw_not rfl rfl g2) rfl ?_
      refine rl_skip (gw_not rfl rfl g2) rfl ?_
      refine rl_skip (gw_not rfl rfl g2) rfl ?_
      refine rl_val gw_none (ov_pick_t rfl g2 rfl) rfl ?_
      refine rl_nil ?_
      refine at_then ?_
      refine ct_true rfl rfl ?_
      refine ct_seq ?_
      refine ct_reg ?_
      refine rl_val gw_none (ov_move rfl) rfl ?_
      refine rl_val gw_none (ov_assign rfl) rfl ?_
      refine rl_val gw_none (ov_assign rfl) rfl ?_
      refine rl_nil ?_
      refine at_then ?_
      refine ct_ret ?_
      refine at_then_ret ?_
      refine at_ret2 Try.results64 (ro_tmp rfl) (ro_tmp rfl) (fun w1 hp => ?_)
      first | (rw [cdR_no (show cdB u l xs n = false from (by unfold cdB; first | (simp_all; done) | (simp_all; intros; omega))), show cdB u l xs n = false from (by unfold cdB; first | (simp_all; done) | (simp_all; intros; omega))]; first | exact RetSl.nil hp.ext0 | exact RetSl.lit 1 hp rfl rfl (by decide) | exact RetSl.lit 0 hp rfl rfl (by decide)) | (have hc : cdB u l xs n = true := (by unfold cdB; simp_all); rw [cdR_yes hc, hc, ← hke]; exact RetSl.own 999 hp rfl hsl)
    ·
      have hzn : n ≤ 9223372036854775807 := zn.2
      have hn1 : 1 ≤ n := by simpa using g2
      have hdb : 0 ≤ numF xs / n ∧ numF xs / n ≤ numF xs := ⟨Int.ediv_nonneg (by omega) (by omega), Int.ediv_le_self _ (by omega)⟩
      first | refine rl_val (gw_some rfl rfl g2) (ov_loadall 1 ag26 rfl rfl rfl) rfl ?_ | refine rl_val (gw_some rfl rfl g2) (ov_loadp 1 ag26 rfl rfl (vs := [_, _, _]) rfl rfl) rfl ?_ | refine rl_val (gw_some rfl rfl g2) (ov_loada 1 ag26 rfl rfl rfl (by assumption)) rfl ?_
      refine rl_callv (gw_some rfl rfl g2) goes127 rfl (fun w1 hp => l2Number_c u l xs _ _ zu zl hGxs (hsxs.ext hp.ext0) hf) rfl ?_
      refine rl_val (gw_some rfl rfl g2) (ov_move rfl) rfl ?_
      refine rl_val (gw_some rfl rfl g2) (ov_quo rfl rfl (by omega) (by omega) (by omega)) rfl ?_
      refine rl_val (gw_some rfl rfl g2) (ov_gtr rfl rfl) rfl ?_
      refine rl_val gw_none (ov_pick_f rfl g2 rfl) rfl ?_
      refine rl_nil ?_
      refine at_then ?_
      first | refine ct_dec rfl (fun h1 => ?_) (fun h1 => ?_) | refine ct_ndec rfl (fun h1 => ?_) (fun h1 => ?_) | refine ct_eq rfl (fun h1 => ?_) (fun h1 => ?_) | refine ct_ne rfl (fun h1 => ?_) (fun h1 => ?_) | refine ct_not rfl (fun h1 => ?_) (fun h1 => ?_) | refine ct_cond rfl (fun h1 => ?_) (fun h1 => ?_)
      ·
        refine ct_seq ?_
        refine ct_reg ?_
        refine rl_val gw_none (ov_move rfl) rfl ?_
        refine rl_val gw_none (ov_assign rfl) rfl ?_
        refine rl_val gw_none (ov_assign rfl) rfl ?_
        refine rl_nil ?_
        refine at_then ?_
        refine ct_ret ?_
        refine at_then_ret ?_
        refine at_ret2 Try.results64 (ro_tmp rfl) (ro_tmp rfl) (fun w1 hp => ?_)
        first | (rw [cdR_no (show cdB u l xs n = false from (by unfold cdB; first | (simp_all; done) | (simp_all; intros; omega))), show cdB u l xs n = false from (by unfold cdB; first | (simp_all; done) | (simp_all; intros; omega))]; first | exact RetSl.nil hp.ext0 | exact RetSl.lit 1 hp rfl rfl (by decide) | exact RetSl.lit 0 hp rfl rfl (by decide)) | (have hc : cdB u l xs n = true := (by unfold cdB; simp_all); rw [cdR_yes hc, hc, ← hke]; exact RetSl.own 999 hp rfl hsl)
      ·
        have hdv : numF xs / n ≤ 50 := by simpa using h1
        refine ct_skip ?_
        refine at_then ?_
        refine ct_seq ?_
        refine ct_seq ?_
        refine ct_reg ?_
        first | refine rl_val gw_none (ov_loadall 1 ag26 rfl rfl rfl) rfl ?_ | refine rl_val gw_none (ov_loadp 1 ag26 rfl rfl (vs := [_, _, _]) rfl rfl) rfl ?_ | refine rl_val gw_none (ov_loada 1 ag26 rfl rfl rfl (by assumption)) rfl ?_
        refine rl_callv gw_none goes127 rfl (fun w1 hp => l2Number_c u l xs _ _ zu zl hGxs (hsxs.ext hp.ext0) hf) rfl ?_
        refine rl_val gw_none (ov_move rfl) rfl ?_
        refine rl_val gw_none (ov_sub rfl rfl (by omega)) rfl ?_
        refine rl_val gw_none (ov_assign rfl) rfl ?_
        refine rl_nil ?_
        refine at_then ?_
        refine ct_block ?_
        refine ct_loopR (ι := Nat × Option Nat × Nat × List Value) (fun p0 => [(6, sv p0.2.1 (cdL (numF xs) n p0.1).length p0.2.2.1), (7, .int .i64 (numF xs - n * ((p0.1 : Int) + 1)))]) [(1, _), (4, _), (5, _)] (fun p0 => (p0.2.1, 3, ints (cdL (numF xs) n p0.1) ++ p0.2.2.2) :: _) (fun p0 => (p0.1 : Int) ≤ numF xs / n ∧ Sl 1 p0.2.1 (cdL (numF xs) n p0.1).length p0.2.2.1 (ints (cdL (numF xs) n p0.1)) p0.2.2.2) (fun p0 => 50 - p0.1) ((0, some N2, 0, [])) (Sub.cons rfl (Sub.cons rfl (Sub.cons rfl Sub.nil))) (fun _ hq => hq) (by dsimp only; (repeat' (first | exact Sub.nil | refine Sub.cons ?_ ?_)); all_goals (first | rfl | exact lkInt rfl (by omega))) ⟨Int.ediv_nonneg (by omega) (by omega), Sl.lit rfl (Nat.zero_le _)⟩ (fun p0 hp0 => ?_)
        obtain ⟨k, bo, cap, pad⟩ := p0
        obtain ⟨hk, hsl⟩ := hp0
        dsimp only at hk hsl
        try dsimp only
        have hal := cdL_len (numF xs) n k
        have hmn : 0 ≤ n * ((k : Int) + 1) := Int.mul_nonneg (by omega) (by omega)
        have hst := cd_step (numF xs) n k
        refine ct_seq ?_
        refine ct_seq ?_
        refine ct_reg ?_
        refine rl_val gw_none (ov_move rfl) rfl ?_
        refine rl_val gw_none (ov_geq rfl rfl) rfl ?_
        refine rl_nil ?_
        refine at_then ?_
        first | refine ct_dec rfl (fun h2 => ?_) (fun h2 => ?_) | refine ct_ndec rfl (fun h2 => ?_) (fun h2 => ?_) | refine ct_eq rfl (fun h2 => ?_) (fun h2 => ?_) | refine ct_ne rfl (fun h2 => ?_) (fun h2 => ?_) | refine ct_not rfl (fun h2 => ?_) (fun h2 => ?_) | refine ct_cond rfl (fun h2 => ?_) (fun h2 => ?_)
        ·
          have hge := h2
          refine ct_skip ?_
          refine at_then ?_
          refine ct_seq ?_
          refine ct_block ?_
          refine ct_reg ?_
          refine rl_val gw_none (ov_move rfl) rfl ?_
          refine rl_val gw_none (ov_move rfl) rfl ?_
          refine rl_bslice Try.underlying27 ze3 sz3 rfl rfl rfl rfl rfl rfl (fun N3 => ?_)
          refine rl_appT (ints) (ints_append) [_] (acc := cdL (numF xs) n k) Try.underlying27 ze3 sz3 rfl rfl by3 rfl rfl rfl hsl ([numF xs - n * ((k : Int) + 1)]) rfl (fun w1 hp => hp.sr1 0 rfl rfl (by decide)) (ints_one _) (by unfold maxLen; omega) (by omega) rfl (fun boq1 capq1 padq1 hsq1 => ?_)
          refine rl_val gw_none (ov_assign rfl) rfl ?_
          refine rl_nil ?_
          refine at_block ?_
          refine at_then ?_
          refine ct_reg ?_
          refine rl_val gw_none (ov_move rfl) rfl ?_
          refine rl_val gw_none (ov_move rfl) rfl ?_
          refine rl_val gw_none (ov_sub rfl rfl (by omega)) rfl ?_
          refine rl_val gw_none (ov_assign rfl) rfl ?_
          refine rl_nil ?_
          have hts := cdL_snoc (numF xs) n k
          have hk2 := cd_next hn1 (show 0 ≤ numF xs - n * ((k : Int) + 1) by simpa using hge)
          exact at_backR (k + 1, boq1, capq1, padq1) ⟨by dsimp only; omega, by dsimp only; rw [hts]; exact hsq1⟩ (by dsimp only; omega) (by dsimp only; rw [hts]; (repeat' (first | exact Sub.nil | refine Sub.cons ?_ ?_)); all_goals (first | rfl | exact lkInt rfl (by omega))) (Sub.cons rfl (Sub.cons rfl (Sub.cons rfl Sub.nil))) (fun _ hq => (hq.drop).cong (by dsimp only; rw [hts]; try rfl))
        ·
          have hke := cd_end hn1 hk (by simpa using h2)
          refine ct_exit ?_
          refine at_then_exit ?_
          refine at_then_exit ?_
          refine at_block_hit ?_
          refine at_then ?_
          refine ct_seq ?_
          refine ct_reg ?_
          refine rl_val gw_none (ov_move rfl) rfl ?_
          refine rl_val gw_none (ov_assign rfl) rfl ?_
          refine rl_val gw_none (ov_assign rfl) rfl ?_
          refine rl_nil ?_
          refine at_then ?_
          refine ct_ret ?_
          refine at_ret2 Try.results64 (ro_tmp rfl) (ro_tmp rfl) (fun w1 hp => ?_)
          first | (rw [cdR_no (show cdB u l xs n = false from (by unfold cdB; first | (simp_all; done) | (simp_all; intros; omega))), show cdB u l xs n = false from (by unfold cdB; first | (simp_all; done) | (simp_all; intros; omega))]; first | exact RetSl.nil hp.ext0 | exact RetSl.lit 999 hp rfl rfl (by decide) | exact RetSl.lit 0 hp rfl rfl (by decide)) | (have hc : cdB u l xs n = true := (by unfold cdB; simp_all); rw [cdR_yes hc, hc, ← hke]; exact RetSl.own 0 hp rfl hsl)

theorem iNearestBelow_c (u : Int) (l : Int) (xs : List IntA2) (n : Int) (vxs : Value) (w : World) (zu : In64 u) (zl : In64 l) (hGxs : ∀ y ∈ xs, GIntA2 y) (hsxs : SR w 2 vxs xs.length (flat encIntA2 xs)) (zn : In64 n) : Calls Try.prog 69 ([.agg (List.toArray (α := Value) [.int .i64 u, .int .i64 l, vxs]), .int .i64 n]).toArray w (fun e w' => RetSl 81 2 (flat encIntA2 (belowR u l xs n).xs) (belowR u l xs n).xs.length (fun s => .tuple #[.agg [.int .i64 (belowR u l xs n).u, .int .i64 (belowR u l xs n).l, s].toArray, .bool (belowR u l xs n).ok]) w e w') := by
  obtain ⟨axs, capxs, rfl, hcapxs, hmaxxs⟩ := hsxs.slice
  have hlenxs := hsxs.len_le
  refine calls_ct Try.func69 Try.ntmps69 rfl rfl ?_
  refine ct_seq ?_
  refine ct_reg ?_
  refine rl_box rfl rfl (fun N1 => ?_)
  refine rl_alloc ze26 rfl (fun N2 => ?_)
  refine rl_val gw_none (ov_assign rfl) rfl ?_
  refine rl_nil ?_
  refine at_then ?_
  refine ct_seq ?_
  refine ct_seq ?_
  refine ct_reg ?_
  first | refine rl_val gw_none (ov_loadall 1 ag26 rfl rfl rfl) rfl ?_ | refine rl_val gw_none (ov_loadp 1 ag26 rfl rfl (vs := [_, _, _]) rfl rfl) rfl ?_ | refine rl_val gw_none (ov_loada 1 ag26 rfl rfl rfl (by assumption)) rfl ?_
  refine rl_callx (ι := Value) (fun p => .tuple #[p, .bool (goodB u l xs)]) (fun _ => True) gw_none goes77 rfl (fun w1 hp => begin_x u l xs _ _ zu zl hGxs (hsxs.ext hp.ext0)) rfl (fun pb _ => ?_)
  refine rl_val gw_none (ov_move rfl) rfl ?_
  refine rl_val gw_none (ov_extract rfl rfl) rfl ?_
  refine rl_val gw_none (ov_extract rfl rfl) rfl ?_
  refine rl_val gw_none (ov_assign rfl) rfl ?_
  refine rl_val gw_none (ov_assign rfl) rfl ?_
  refine rl_nil ?_
  refine at_then ?_
  refine ct_seq ?_
  refine ct_reg ?_
  refine rl_val gw_none (ov_move rfl) rfl ?_
  refine rl_val gw_none (ov_not rfl) rfl ?_
  refine rl_val gw_none (ov_move rfl) rfl ?_
  refine rl_split (t := 15) rfl (fun g1 => ?_) (fun g1 => ?_)
  ·
    have g1' := g1
    try simp only [Bool.not_eq_true', Bool.not_eq_false', Bool.not_not, decide_eq_true_eq, decide_eq_false_iff_not, beq_iff_eq, beq_eq_false_iff_ne, bne_iff_ne, bne_eq_false_iff_eq, Bool.and_eq_true, Bool.or_eq_true, Bool.and_eq_false_iff, Bool.or_eq_false_iff, inB] at g1'
    refine rl_skip (gw_not rfl rfl g1) rfl ?_
    refine rl_skip (gw_not rfl rfl g1) rfl ?_
    refine rl_val gw_none (ov_pick_t rfl g1 rfl) rfl ?_
    refine rl_nil ?_
    refine at_then ?_
    refine ct_true rfl rfl ?_
    refine ct_seq ?_
    refine ct_reg ?_
    refine rl_val gw_none (ov_build rfl (bu26_)) rfl ?_
    refine rl_store [] sz26 rfl rfl rfl rfl rfl (Nat.le_of_ble_eq_true rfl) ?_
    refine rl_val gw_none (ov_assign rfl) rfl ?_
    refine rl_nil ?_
    refine at_then ?_
    refine ct_ret ?_
    refine at_then_ret ?_
    refine at_ret2 Try.results69 (ro_cell 0 ag26 rfl rfl rfl) (ro_tmp rfl) (fun w1 hp => ?_)
    unfold belowR
    first | (rw [okR_no (by first | (simp_all; done) | (simp_all [inB]; done) | (simp_all [inB]; omega))]; exact RetSl.nil hp.ext0) | (rw [okR_yes (by first | (simp_all; done) | (simp_all [inB]; done) | (simp_all [inB]; omega))]; rw [hdm]; exact RetSl.ownL 999 hp rfl no_proof (showL_len _ _).symm)
  ·
    have hg : goodB u l xs = true := by simpa using g1
    have hf := goodB_f hg
    have h8 := (frameB_ul hf).2.2.2
    have hl1 := (frameB_ul hf).2.2.1
    have hnb := numF_all hf
    refine rl_val (gw_some rfl rfl g1) (ov_move rfl) rfl ?_
    refine rl_val (gw_some rfl rfl g1) (ov_lss rfl rfl) rfl ?_
    refine rl_val gw_none (ov_pick_f rfl g1 rfl) rfl ?_
    refine rl_nil ?_
    refine at_then ?_
    first | refine ct_dec rfl (fun h1 => ?_) (fun h1 => ?_) | refine ct_ndec rfl (fun h1 => ?_) (fun h1 => ?_) | refine ct_eq rfl (fun h1 => ?_) (fun h1 => ?_) | refine ct_ne rfl (fun h1 => ?_) (fun h1 => ?_) | refine ct_not rfl (fun h1 => ?_) (fun h1 => ?_) | refine ct_cond rfl (fun h1 => ?_) (fun h1 => ?_)
    ·
      refine ct_seq ?_
      refine ct_reg ?_
      refine rl_val gw_none (ov_build rfl (bu26_)) rfl ?_
      refine rl_store [] sz26 rfl rfl rfl rfl rfl (Nat.le_of_ble_eq_true rfl) ?_
      refine rl_val gw_none (ov_assign rfl) rfl ?_
      refine rl_nil ?_
      refine at_then ?_
      refine ct_ret ?_
      refine at_then_ret ?_
      refine at_ret2 Try.results69 (ro_cell 0 ag26 rfl rfl rfl) (ro_tmp rfl) (fun w1 hp => ?_)
      unfold belowR
      first | (rw [okR_no (by first | (simp_all; done) | (simp_all [inB]; done) | (simp_all [inB]; omega))]; exact RetSl.nil hp.ext0) | (rw [okR_yes (by first | (simp_all; done) | (simp_all [inB]; done) | (simp_all [inB]; omega))]; rw [hdm]; exact RetSl.ownL 999 hp rfl no_proof (showL_len _ _).symm)
    ·
      have hn1 : 1 ≤ n := by simpa using h1
      have hdb : 0 ≤ numF xs / n ∧ numF xs / n ≤ numF xs := ⟨Int.ediv_nonneg (by omega) (by omega), Int.ediv_le_self _ (by omega)⟩
      have hmb : 0 ≤ numF xs % n ∧ numF xs % n ≤ numF xs := ⟨Int.emod_nonneg _ (by omega), by have := Int.emod_add_mul_ediv (numF xs) n; have := Int.mul_nonneg (show 0 ≤ n by omega) hdb.1; omega⟩
      have hdm : numF xs / n * n = numF xs - numF xs % n := by have := Int.emod_add_mul_ediv (numF xs) n; rw [Int.mul_comm n] at this; omega
      refine ct_skip ?_
      refine at_then ?_
      refine ct_seq ?_
      refine ct_dr 8 (by kernel_rfl) (by kernel_rfl) ?_
      first | refine ql_val gw_none (ov_loadall 1 ag26 rfl rfl rfl) rfl ?_ | refine ql_val gw_none (ov_loadp 1 ag26 rfl rfl (vs := [_, _, _]) rfl rfl) rfl ?_ | refine ql_val gw_none (ov_loada 1 ag26 rfl rfl rfl (by assumption)) rfl ?_
      first | refine ql_val gw_none (ov_loadall 1 ag26 rfl rfl rfl) rfl ?_ | refine ql_val gw_none (ov_loadp 1 ag26 rfl rfl (vs := [_, _, _]) rfl rfl) rfl ?_ | refine ql_val gw_none (ov_loada 1 ag26 rfl rfl rfl (by assumption)) rfl ?_
      refine ql_callv gw_none goes88 rfl (fun w1 hp => number_c u l xs _ _ zu zl hGxs (hsxs.ext hp.ext0) hf) rfl ?_
      first | refine ql_val gw_none (ov_loadall 1 ag26 rfl rfl rfl) rfl ?_ | refine ql_val gw_none (ov_loadp 1 ag26 rfl rfl (vs := [_, _, _]) rfl rfl) rfl ?_ | refine ql_val gw_none (ov_loada 1 ag26 rfl rfl rfl (by assumption)) rfl ?_
      refine ql_callv gw_none goes88 rfl (fun w1 hp => number_c u l xs _ _ zu zl hGxs (hsxs.ext hp.ext0) hf) rfl ?_
      refine ql_val gw_none (ov_move rfl) rfl ?_
      refine ql_val gw_none (ov_rem rfl rfl (by omega) (by omega)) rfl ?_
      refine ql_val gw_none (ov_sub rfl rfl (by omega)) rfl ?_
      refine ql_nil ?_
      refine rl_callsl (ι := Nat × List Value) (fun i bo => .agg [.int .i64 u, .int .i64 l, sv bo (xs).length i.1].toArray) (fun i => flat encIntA2 (showL (numF xs - numF xs % n) (xs).length) ++ i.2) (fun i bo => Sl 2 bo (xs).length i.1 (flat encIntA2 (showL (numF xs - numF xs % n) (xs).length)) i.2) goes115 rfl (fun w1 hp => showing_c u l xs (numF xs - numF xs % n) _ _ zu zl hGxs (hsxs.ext hp.ext0) h8 hl1 (by omega)) rfl (fun ish bosh hssh => ?_)
      refine rl_store [_] sz26 rfl rfl rfl rfl rfl (Nat.le_of_ble_eq_true rfl) ?_
      refine rl_val gw_none (ov_assign rfl) rfl ?_
      refine rl_nil ?_
      refine at_then ?_
      refine ct_ret ?_
      refine at_ret2 Try.results69 (ro_cell 1 ag26 rfl rfl rfl) (ro_tmp rfl) (fun w1 hp => ?_)
      unfold belowR
      first | (rw [okR_no (by first | (simp_all; done) | (simp_all [inB]; done) | (simp_all [inB]; omega))]; exact RetSl.nil hp.ext0) | (rw [okR_yes (by first | (simp_all; done) | (simp_all [inB]; done) | (simp_all [inB]; omega))]; rw [hdm]; exact RetSl.ownL 0 hp rfl hssh (showL_len _ _).symm)

theorem sNearestBelow_c (u : Int) (l : Int) (xs : List IntA2) (n : Int) (vxs : Value) (w : World) (zu : In64 u) (zl : In64 l) (hGxs : ∀ y ∈ xs, GIntA2 y) (hsxs : SR w 2 vxs xs.length (flat encIntA2 xs)) (zn : In64 n) : Calls Try.prog 70 ([.agg (List.toArray (α := Value) [.int .i64 u, .int .i64 l, vxs]), .int .i64 n]).toArray w (fun e w' => RetSl 81 2 (flat encIntA2 (belowR u l xs n).xs) (belowR u l xs n).xs.length (fun s => .tuple #[.agg [.int .i64 (belowR u l xs n).u, .int .i64 (belowR u l xs n).l, s].toArray, .bool (belowR u l xs n).ok]) w e w') := by
  obtain ⟨axs, capxs, rfl, hcapxs, hmaxxs⟩ := hsxs.slice
  have hlenxs := hsxs.len_le
  refine calls_ct Try.func70 Try.ntmps70 rfl rfl ?_
  refine ct_seq ?_
  refine ct_reg ?_
  refine rl_box rfl rfl (fun N1 => ?_)
  refine rl_alloc ze26 rfl (fun N2 => ?_)
  refine rl_val gw_none (ov_assign rfl) rfl ?_
  refine rl_nil ?_
  refine at_then ?_
  refine ct_seq ?_
  refine ct_seq ?_
  refine ct_reg ?_
  first | refine rl_val gw_none (ov_loadall 1 ag26 rfl rfl rfl) rfl ?_ | refine rl_val gw_none (ov_loadp 1 ag26 rfl rfl (vs := [_, _, _]) rfl rfl) rfl ?_ | refine rl_val gw_none (ov_loada 1 ag26 rfl rfl rfl (by assumption)) rfl ?_
  refine rl_callv gw_none goes74 rfl (fun w1 hp => l2Standard_c u l xs _ _ zu zl hGxs (hsxs.ext hp.ext0)) rfl ?_
  refine rl_val gw_none (ov_not rfl) rfl ?_
  refine rl_val gw_none (ov_move rfl) rfl ?_
  refine rl_split (t := 9) rfl (fun g1 => ?_) (fun g1 => ?_)
  ·
    have g1' := g1
    try simp only [Bool.not_eq_true', Bool.not_eq_false', Bool.not_not, decide_eq_true_eq, decide_eq_false_iff_not, beq_iff_eq, beq_eq_false_iff_ne, bne_iff_ne, bne_eq_false_iff_eq, Bool.and_eq_true, Bool.or_eq_true, Bool.and_eq_false_iff, Bool.or_eq_false_iff, inB] at g1'
    refine rl_skip (gw_not rfl rfl g1) rfl ?_
    refine rl_skip (gw_not rfl rfl g1) rfl ?_
    refine rl_val gw_none (ov_pick_t rfl g1 rfl) rfl ?_
    refine rl_nil ?_
    refine at_then ?_
    refine ct_true rfl rfl ?_
    refine ct_seq ?_
    refine ct_reg ?_
    refine rl_val gw_none (ov_build rfl (bu26_)) rfl ?_
    refine rl_store [] sz26 rfl rfl rfl rfl rfl (Nat.le_of_ble_eq_true rfl) ?_
    refine rl_val gw_none (ov_assign rfl) rfl ?_
    refine rl_nil ?_
    refine at_then ?_
    refine ct_ret ?_
    refine at_then_ret ?_
    refine at_ret2 Try.results70 (ro_cell 0 ag26 rfl rfl rfl) (ro_tmp rfl) (fun w1 hp => ?_)
    unfold belowR
    first | (rw [okR_no (by first | (simp_all; done) | (simp_all [inB]; done) | (simp_all [inB]; omega))]; exact RetSl.nil hp.ext0) | (rw [okR_yes (by first | (simp_all; done) | (simp_all [inB]; done) | (simp_all [inB]; omega))]; exact RetSl.ownL 999 hp rfl no_proof (showL_len _ _).symm)
  ·
    have hg : goodB u l xs = true := by simpa using g1
    have hf := goodB_f hg
    have h8 := (frameB_ul hf).2.2.2
    have hl1 := (frameB_ul hf).2.2.1
    have hnb := numF_all hf
    refine rl_val (gw_some rfl rfl g1) (ov_move rfl) rfl ?_
    refine rl_val (gw_some rfl rfl g1) (ov_lss rfl rfl) rfl ?_
    refine rl_val gw_none (ov_pick_f rfl g1 rfl) rfl ?_
    refine rl_nil ?_
    refine at_then ?_
    first | refine ct_dec rfl (fun h1 => ?_) (fun h1 => ?_) | refine ct_ndec rfl (fun h1 => ?_) (fun h1 => ?_) | refine ct_eq rfl (fun h1 => ?_) (fun h1 => ?_) | refine ct_ne rfl (fun h1 => ?_) (fun h1 => ?_) | refine ct_not rfl (fun h1 => ?_) (fun h1 => ?_) | refine ct_cond rfl (fun h1 => ?_) (fun h1 => ?_)
    ·
      refine ct_seq ?_
      refine ct_reg ?_
      refine rl_val gw_none (ov_build rfl (bu26_)) rfl ?_
      refine rl_store [] sz26 rfl rfl rfl rfl rfl (Nat.le_of_ble_eq_true rfl) ?_
      refine rl_val gw_none (ov_assign rfl) rfl ?_
      refine rl_nil ?_
      refine at_then ?_
      refine ct_ret ?_
      refine at_then_ret ?_
      refine at_ret2 Try.results70 (ro_cell 0 ag26 rfl rfl rfl) (ro_tmp rfl) (fun w1 hp => ?_)
      unfold belowR
      first | (rw [okR_no (by first | (simp_all; done) | (simp_all [inB]; done) | (simp_all [inB]; omega))]; exact RetSl.nil hp.ext0) | (rw [okR_yes (by first | (simp_all; done) | (simp_all [inB]; done) | (simp_all [inB]; omega))]; exact RetSl.ownL 999 hp rfl no_proof (showL_len _ _).symm)
    ·
      have hn1 : 1 ≤ n := by simpa using h1
      have hdb : 0 ≤ numF xs / n ∧ numF xs / n ≤ numF xs := ⟨Int.ediv_nonneg (by omega) (by omega), Int.ediv_le_self _ (by omega)⟩
      have hmb : 0 ≤ numF xs % n ∧ numF xs % n ≤ numF xs := ⟨Int.emod_nonneg _ (by omega), by have := Int.emod_add_mul_ediv (numF xs) n; have := Int.mul_nonneg (show 0 ≤ n by omega) hdb.1; omega⟩
      have hdm : numF xs / n * n = numF xs - numF xs % n := by have := Int.emod_add_mul_ediv (numF xs) n; rw [Int.mul_comm n] at this; omega
      refine ct_skip ?_
      refine at_then ?_
      refine ct_seq ?_
      refine ct_dr 13 (by kernel_rfl) (by kernel_rfl) ?_
      refine ql_val gw_none (ov_field fo26_0 rfl) rfl ?_
      first | refine ql_val gw_none (ov_load 1 sc3 rfl rfl rfl) rfl ?_ | refine ql_val gw_none (ov_load 1 sc3 rfl rfl (by assumption)) rfl ?_
      refine ql_val gw_none (ov_field fo26_1 rfl) rfl ?_
      first | refine ql_val gw_none (ov_load 1 sc3 rfl rfl rfl) rfl ?_ | refine ql_val gw_none (ov_load 1 sc3 rfl rfl (by assumption)) rfl ?_
      refine ql_val gw_none (ov_field fo26_2 rfl) rfl ?_
      first | refine ql_val gw_none (ov_load 1 sc22 rfl rfl rfl) rfl ?_ | refine ql_val gw_none (ov_load 1 sc22 rfl rfl (by assumption)) rfl ?_
      refine ql_val gw_none (ov_len Try.underlying22 rfl) rfl ?_
      first | refine ql_val gw_none (ov_loadall 1 ag26 rfl rfl rfl) rfl ?_ | refine ql_val gw_none (ov_loadp 1 ag26 rfl rfl (vs := [_, _, _]) rfl rfl) rfl ?_ | refine ql_val gw_none (ov_loada 1 ag26 rfl rfl rfl (by assumption)) rfl ?_
      refine ql_callv gw_none goes127 rfl (fun w1 hp => l2Number_c u l xs _ _ zu zl hGxs (hsxs.ext hp.ext0) hf) rfl ?_
      refine ql_val gw_none (ov_move rfl) rfl ?_
      refine ql_val gw_none (ov_quo rfl rfl (by omega) (by omega) (by omega)) rfl ?_
      refine ql_val gw_none (ov_move rfl) rfl ?_
      refine ql_val gw_none (ov_mul rfl rfl (by omega)) rfl ?_
      refine ql_nil ?_
      refine rl_callsl (ι := Nat × List Value) (fun i bo => .agg [.int .i64 u, .int .i64 l, sv bo (xs.length) i.1].toArray) (fun i => flat encIntA2 (showL (numF xs / n * n) (xs.length)) ++ i.2) (fun i bo => Sl 2 bo (xs.length) i.1 (flat encIntA2 (showL (numF xs / n * n) (xs.length))) i.2) goes106 rfl (fun w1 hp => l2For_c u l _ (numF xs / n * n) (xs.length) _ rfl ⟨hl1, h8⟩ (by omega)) rfl (fun ish bosh hssh => ?_)
      refine rl_store [_] sz26 rfl rfl rfl rfl rfl (Nat.le_of_ble_eq_true rfl) ?_
      refine rl_val gw_none (ov_assign rfl) rfl ?_
      refine rl_nil ?_
      refine at_then ?_
      refine ct_ret ?_
      refine at_ret2 Try.results70 (ro_cell 1 ag26 rfl rfl rfl) (ro_tmp rfl) (fun w1 hp => ?_)
      unfold belowR
      first | (rw [okR_no (by first | (simp_all; done) | (simp_all [inB]; done) | (simp_all [inB]; omega))]; exact RetSl.nil hp.ext0) | (rw [okR_yes (by first | (simp_all; done) | (simp_all [inB]; done) | (simp_all [inB]; omega))]; exact RetSl.ownL 0 hp rfl hssh (showL_len _ _).symm)
end Go.Proofs.Ytnnhkpecgchgiaa
