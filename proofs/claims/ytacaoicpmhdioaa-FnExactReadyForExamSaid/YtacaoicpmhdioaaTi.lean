import Derived.Test.YtacaoicpmhdioaaTf
import Derived.KernelRfl
set_option linter.unusedVariables false
set_option linter.unusedSimpArgs false
namespace Go.Proofs.Ytacaoicpmhdioaa
open Go Go.RowKit K
theorem l25Passes_c (x : Student) (q : Int) (w : World) (hx : 0 ≤ x.grade ∧ x.grade ≤ 10) : Calls Try.prog 68 ([.agg (encStudent x).toArray, .int .i64 q]).toArray w (fun e w' => e = .returned (.bool (decide (70 ≤ q) && decide (10 + 5 * x.grade ≤ x.hours))) ∧ Ext w w') := by
  refine calls_ct Try.func68 Try.ntmps68 rfl rfl ?_
  refine ct_seq ?_
  refine ct_reg ?_
  refine rl_box rfl rfl (fun N1 => ?_)
  refine rl_val gw_none (ov_assign rfl) rfl ?_
  refine rl_nil ?_
  refine at_then ?_
  refine ct_seq ?_
  refine ct_dr 11 (by kernel_rfl) (by kernel_rfl) ?_
  refine ql_val gw_none (ov_move rfl) rfl ?_
  refine ql_val gw_none (ov_geq rfl rfl) rfl ?_
  refine ql_val gw_none (ov_move rfl) rfl ?_
  refine ql_split (t := 7) rfl (fun g1 => ?_) (fun g1 => ?_)
  ·
    have g1' := g1
    try simp only [Bool.not_eq_true', Bool.not_eq_false', Bool.not_not, decide_eq_true_eq, decide_eq_false_iff_not, beq_iff_eq, beq_eq_false_iff_ne, bne_iff_ne, bne_eq_false_iff_eq, Bool.and_eq_true, Bool.or_eq_true, Bool.and_eq_false_iff, Bool.or_eq_false_iff, inB] at g1'
    refine ql_val (gw_some rfl rfl g1) (ov_field fo69_2 rfl) rfl ?_
    first | refine ql_val (gw_some rfl rfl g1) (ov_load 0 sc3 rfl rfl rfl) rfl ?_ | refine ql_val (gw_some rfl rfl g1) (ov_load 0 sc3 rfl rfl (by assumption)) rfl ?_
    refine ql_val (gw_some rfl rfl g1) (ov_field fo69_1 rfl) rfl ?_
    first | refine ql_val (gw_some rfl rfl g1) (ov_load 0 sc3 rfl rfl rfl) rfl ?_ | refine ql_val (gw_some rfl rfl g1) (ov_load 0 sc3 rfl rfl (by assumption)) rfl ?_
    refine ql_callv (gw_some rfl rfl g1) goes63 rfl (fun w1 hp => l25Wanted_c _ _ (by omega)) rfl ?_
    refine ql_val (gw_some rfl rfl g1) (ov_geq rfl rfl) rfl ?_
    refine ql_val gw_none (ov_pick_t rfl g1 rfl) rfl ?_
    refine ql_val gw_none (ov_assign rfl) rfl ?_
    refine ql_nil ?_
    refine rl_nil ?_
    refine at_then ?_
    refine ct_ret ?_
    refine at_ret1 Try.results68 (ro_tmp rfl) (fun w1 hp => ?_)
    refine ⟨?_, hp.ext0⟩
    first | (rw [decide_eq_true (show 70 ≤ q by simpa using g1)]; rfl) | (rw [decide_eq_false (show ¬ 70 ≤ q by simpa using g1)]; rfl)
  ·
    have g1' := g1
    try simp only [Bool.not_eq_true', Bool.not_eq_false', Bool.not_not, decide_eq_true_eq, decide_eq_false_iff_not, beq_iff_eq, beq_eq_false_iff_ne, bne_iff_ne, bne_eq_false_iff_eq, Bool.and_eq_true, Bool.or_eq_true, Bool.and_eq_false_iff, Bool.or_eq_false_iff, inB] at g1'
    refine ql_skip (gw_not rfl rfl g1) rfl ?_
    refine ql_skip (gw_not rfl rfl g1) rfl ?_
    refine ql_skip (gw_not rfl rfl g1) rfl ?_
    refine ql_skip (gw_not rfl rfl g1) rfl ?_
    refine ql_skip (gw_not rfl rfl g1) rfl ?_
    refine ql_skip (gw_not rfl rfl g1) rfl ?_
    refine ql_val gw_none (ov_pick_f rfl g1 rfl) rfl ?_
    refine ql_val gw_none (ov_assign rfl) rfl ?_
    refine ql_nil ?_
    refine rl_nil ?_
    refine at_then ?_
    refine ct_ret ?_
    refine at_ret1 Try.results68 (ro_tmp rfl) (fun w1 hp => ?_)
    refine ⟨?_, hp.ext0⟩
    first | (rw [decide_eq_true (show 70 ≤ q by simpa using g1)]; rfl) | (rw [decide_eq_false (show ¬ 70 ≤ q by simpa using g1)]; rfl)

theorem iReadyForExam_c (d : Int) (xs : List Student) (pa : Int) (le : Int) (vxs : Value) (w : World) (zd : In64 d) (hGxs : ∀ y ∈ xs, GStudent y) (hsxs : SR w 5 vxs xs.length (flat encStudent xs)) (zpa : In64 pa) (zle : In64 le) : Calls Try.prog 36 ([.agg (List.toArray (α := Value) [.int .i64 d, vxs, .int .i64 pa, .int .i64 le])]).toArray w (fun e w' => RetSl 3 1 (ints (selR (schoolB d xs pa le) (fun (x : Student) => decide (d ≤ x.paid) && decide (x.grade < 10) && decide (10 + 5 * x.grade ≤ x.hours)) (fun (x : Student) => x.id) xs)) ((selR (schoolB d xs pa le) (fun (x : Student) => decide (d ≤ x.paid) && decide (x.grade < 10) && decide (10 + 5 * x.grade ≤ x.hours)) (fun (x : Student) => x.id) xs).length) (fun s => .tuple #[s, .bool (schoolB d xs pa le)]) w e w') := by
  obtain ⟨axs, capxs, rfl, hcapxs, hmaxxs⟩ := hsxs.slice
  have hlenxs := hsxs.len_le
  refine calls_ct Try.func36 Try.ntmps36 rfl rfl ?_
  refine ct_seq ?_
  refine ct_reg ?_
  refine rl_box rfl rfl (fun N1 => ?_)
  refine rl_val gw_none (ov_assign rfl) rfl ?_
  refine rl_val gw_none (ov_assign rfl) rfl ?_
  refine rl_nil ?_
  refine at_then ?_
  refine ct_seq ?_
  refine ct_seq ?_
  refine ct_reg ?_
  first | refine rl_val gw_none (ov_loadall 0 ag24 rfl rfl rfl) rfl ?_ | refine rl_val gw_none (ov_loada 0 ag24 rfl rfl rfl (by assumption)) rfl ?_
  refine rl_callv gw_none goes23 rfl (fun w1 hp => iIsSchool_c d xs pa le _ _ zd hGxs (hsxs.ext hp.ext0) zpa zle) rfl ?_
  refine rl_val gw_none (ov_not rfl) rfl ?_
  refine rl_nil ?_
  refine at_then ?_
  first | refine ct_dec rfl (fun h1 => ?_) (fun h1 => ?_) | refine ct_ndec rfl (fun h1 => ?_) (fun h1 => ?_) | refine ct_eq rfl (fun h1 => ?_) (fun h1 => ?_) | refine ct_ne rfl (fun h1 => ?_) (fun h1 => ?_) | refine ct_not rfl (fun h1 => ?_) (fun h1 => ?_) | refine ct_cond rfl (fun h1 => ?_) (fun h1 => ?_)
  ·
    refine ct_seq ?_
    refine ct_reg ?_
    refine rl_val gw_none (ov_assign rfl) rfl ?_
    refine rl_val gw_none (ov_assign rfl) rfl ?_
    refine rl_nil ?_
    refine at_then ?_
    refine ct_ret ?_
    refine at_then_ret ?_
    refine at_ret2 Try.results36 (ro_tmp rfl) (ro_tmp rfl) (fun w1 hp => ?_)
    first | (rw [selR_no (show (schoolB d xs pa le) = false by simpa using h1), show (schoolB d xs pa le) = false by simpa using h1]; first | exact RetSl.nil hp.ext0 | exact RetSl.lit 0 hp rfl rfl (by decide)) | (rw [selR_yes hok, hok, ← hacc]; exact RetSl.own 0 hp rfl hsl)
  ·
    have hok : schoolB d xs pa le = true := by simpa using h1
    have hl8 := schoolB_len hok
    refine ct_skip ?_
    refine at_then ?_
    refine ct_seq ?_
    refine ct_reg ?_
    refine rl_val gw_none (ov_assign rfl) rfl ?_
    refine rl_nil ?_
    refine at_then ?_
    refine ct_seq ?_
    refine ct_seq ?_
    refine ct_reg ?_
    refine rl_val gw_none (ov_field fo24_1 rfl) rfl ?_
    first | refine rl_val gw_none (ov_load 0 sc22 rfl rfl rfl) rfl ?_ | refine rl_val gw_none (ov_load 0 sc22 rfl rfl (by assumption)) rfl ?_
    refine rl_val gw_none (ov_len Try.underlying22 rfl) rfl ?_
    refine rl_val gw_none (ov_move rfl) rfl ?_
    refine rl_nil ?_
    refine at_then ?_
    refine ct_block ?_
    refine ct_loopR (ι := Nat × Option Nat × Nat × List Value × List Int) (fun p0 => [(4, sv p0.2.1 p0.2.2.2.2.length p0.2.2.1), (13, .int .i64 p0.1)]) [(1, _), (2, _), (3, _), (11, _), (12, _)] (fun p0 => (p0.2.1, 3, ints p0.2.2.2.2 ++ p0.2.2.2.1) :: _) (fun p0 => p0.1 ≤ xs.length ∧ p0.2.2.2.2 = selL (fun (x : Student) => decide (d ≤ x.paid) && decide (x.grade < 10) && decide (10 + 5 * x.grade ≤ x.hours)) (fun x => x.id) xs p0.1 ∧ Sl 1 p0.2.1 p0.2.2.2.2.length p0.2.2.1 (ints p0.2.2.2.2) p0.2.2.2.1) (fun p0 => xs.length - p0.1) ((0, none, 0, [], [])) (Sub.cons rfl (Sub.cons rfl (Sub.cons rfl (Sub.cons rfl (Sub.cons rfl Sub.nil))))) (fun _ hq => hq.nil 3) (by (repeat' (first | exact Sub.nil | refine Sub.cons ?_ ?_)); all_goals (first | rfl | exact lkInt rfl (by omega))) ⟨Nat.zero_le _, selL_zero _ _ _, Sl.nil0 _⟩ (fun p0 hp0 => ?_)
    obtain ⟨k, bo, cap, pad, acc⟩ := p0
    obtain ⟨hk, hacc, hsl⟩ := hp0
    dsimp only at hk hacc hsl
    have hal := selL_len hacc
    refine ct_seq ?_
    refine ct_reg ?_
    refine rl_val gw_none (ov_lss rfl rfl) rfl ?_
    refine rl_nil ?_
    refine at_then ?_
    refine ct_seq ?_
    first | refine ct_dec rfl (fun h2 => ?_) (fun h2 => ?_) | refine ct_ndec rfl (fun h2 => ?_) (fun h2 => ?_) | refine ct_eq rfl (fun h2 => ?_) (fun h2 => ?_) | refine ct_ne rfl (fun h2 => ?_) (fun h2 => ?_) | refine ct_not rfl (fun h2 => ?_) (fun h2 => ?_) | refine ct_cond rfl (fun h2 => ?_) (fun h2 => ?_)
    ·
      have hk2 : k < xs.length := by omega
      obtain ⟨b, o, rfl, hel⟩ := hsxs.elem encStudent_len (by omega) hk2
      have hx := getLt hk2
      have hsb := schoolB_at hok hx
      generalize xs[k] = x at *
      have hcx := hel k x hx
      obtain ⟨c0, c1, c2, c3, c4, _⟩ := hel k x hx
      refine ct_skip ?_
      refine at_then ?_
      refine ct_seq ?_
      refine ct_block ?_
      refine ct_seq ?_
      refine ct_reg ?_
      refine rl_val gw_none (ov_ix Try.underlying22 sz69 rfl rfl _ rfl (by omega)) rfl ?_
      first | refine rl_val gw_none (ov_loadaw ag69 rfl rfl (by assumption)) rfl ?_ | refine rl_val gw_none (ov_loadall 0 ag69 rfl rfl rfl) rfl ?_ | refine rl_val gw_none (ov_loadall 1 ag69 rfl rfl rfl) rfl ?_ | refine rl_val gw_none (ov_loadall 2 ag69 rfl rfl rfl) rfl ?_ | refine rl_val gw_none (ov_loadall 3 ag69 rfl rfl rfl) rfl ?_
      refine rl_alloc ze69 rfl (fun N2 => ?_)
      refine rl_store [] sz69 rfl rfl rfl rfl rfl (Nat.le_of_ble_eq_true rfl) ?_
      refine rl_nil ?_
      refine at_then ?_
      refine ct_seq ?_
      refine ct_dr 18 (by kernel_rfl) (by kernel_rfl) ?_
      refine ql_val gw_none (ov_field fo69_3 rfl) rfl ?_
      first | refine ql_val gw_none (ov_load 0 sc3 rfl rfl rfl) rfl ?_ | refine ql_val gw_none (ov_load 0 sc3 rfl rfl (by assumption)) rfl ?_
      refine ql_val gw_none (ov_field fo24_0 rfl) rfl ?_
      first | refine ql_val gw_none (ov_load 2 sc3 rfl rfl rfl) rfl ?_ | refine ql_val gw_none (ov_load 2 sc3 rfl rfl (by assumption)) rfl ?_
      refine ql_val gw_none (ov_geq rfl rfl) rfl ?_
      refine ql_val gw_none (ov_move rfl) rfl ?_
      refine ql_split (t := 22) rfl (fun g1 => ?_) (fun g1 => ?_)
      ·
        have g1' := g1
        try simp only [Bool.not_eq_true', Bool.not_eq_false', Bool.not_not, decide_eq_true_eq, decide_eq_false_iff_not, beq_iff_eq, beq_eq_false_iff_ne, bne_iff_ne, bne_eq_false_iff_eq, Bool.and_eq_true, Bool.or_eq_true, Bool.and_eq_false_iff, Bool.or_eq_false_iff, inB] at g1'
        refine ql_val (gw_some rfl rfl g1) (ov_field fo69_1 rfl) rfl ?_
        first | refine ql_val (gw_some rfl rfl g1) (ov_load 0 sc3 rfl rfl rfl) rfl ?_ | refine ql_val (gw_some rfl rfl g1) (ov_load 0 sc3 rfl rfl (by assumption)) rfl ?_
        refine ql_val (gw_some rfl rfl g1) (ov_lss rfl rfl) rfl ?_
        refine ql_val gw_none (ov_pick_t rfl g1 rfl) rfl ?_
        refine ql_val gw_none (ov_move rfl) rfl ?_
        refine ql_split (t := 27) rfl (fun g2 => ?_) (fun g2 => ?_)
        ·
          have g2' := g2
          try simp only [Bool.not_eq_true', Bool.not_eq_false', Bool.not_not, decide_eq_true_eq, decide_eq_false_iff_not, beq_iff_eq, beq_eq_false_iff_ne, bne_iff_ne, bne_eq_false_iff_eq, Bool.and_eq_true, Bool.or_eq_true, Bool.and_eq_false_iff, Bool.or_eq_false_iff, inB] at g2'
          refine ql_val (gw_some rfl rfl g2) (ov_field fo69_2 rfl) rfl ?_
          first | refine ql_val (gw_some rfl rfl g2) (ov_load 0 sc3 rfl rfl rfl) rfl ?_ | refine ql_val (gw_some rfl rfl g2) (ov_load 0 sc3 rfl rfl (by assumption)) rfl ?_
          refine ql_val (gw_some rfl rfl g2) (ov_field fo69_1 rfl) rfl ?_
          first | refine ql_val (gw_some rfl rfl g2) (ov_load 0 sc3 rfl rfl rfl) rfl ?_ | refine ql_val (gw_some rfl rfl g2) (ov_load 0 sc3 rfl rfl (by assumption)) rfl ?_
          refine ql_callv (gw_some rfl rfl g2) goes65 rfl (fun w1 hp => wanted_c _ _ (by omega)) rfl ?_
          refine ql_val (gw_some rfl rfl g2) (ov_geq rfl rfl) rfl ?_
          refine ql_val gw_none (ov_pick_t rfl g2 rfl) rfl ?_
          refine ql_nil ?_
          refine rl_nil ?_
          refine at_then ?_
          first | refine ct_dec rfl (fun h3 => ?_) (fun h3 => ?_) | refine ct_ndec rfl (fun h3 => ?_) (fun h3 => ?_) | refine ct_eq rfl (fun h3 => ?_) (fun h3 => ?_) | refine ct_ne rfl (fun h3 => ?_) (fun h3 => ?_) | refine ct_not rfl (fun h3 => ?_) (fun h3 => ?_) | refine ct_cond rfl (fun h3 => ?_) (fun h3 => ?_)
          ·
            refine ct_reg ?_
            refine rl_val gw_none (ov_move rfl) rfl ?_
            refine rl_val gw_none (ov_field fo69_0 rfl) rfl ?_
            first | refine rl_val gw_none (ov_load 0 sc3 rfl rfl rfl) rfl ?_ | refine rl_val gw_none (ov_load 0 sc3 rfl rfl (by assumption)) rfl ?_
            refine rl_bslice Try.underlying42 ze3 sz3 rfl rfl rfl rfl rfl rfl (fun N3 => ?_)
            refine rl_appT (ints) (ints_append) [_, _] (acc := acc) Try.underlying42 ze3 sz3 rfl rfl by3 rfl rfl rfl hsl ([x.id]) rfl (fun w1 hp => hp.sr1 0 rfl rfl (by decide)) (ints_one _) (by unfold maxLen; omega) (by omega) rfl (fun boq1 capq1 padq1 hsq1 => ?_)
            refine rl_val gw_none (ov_assign rfl) rfl ?_
            refine rl_nil ?_
            refine at_block ?_
            refine at_then ?_
            refine ct_reg ?_
            refine rl_val gw_none (ov_add rfl rfl (by omega)) rfl ?_
            refine rl_val gw_none (ov_move rfl) rfl ?_
            refine rl_nil ?_
            have hpx := selL_yes (p := fun (x : Student) => decide (d ≤ x.paid) && decide (x.grade < 10) && decide (10 + 5 * x.grade ≤ x.hours)) (f := fun x => x.id) hacc hx (by first | (simp; omega) | (simp; done) | (simp_all; done) | (simp_all; omega))
            exact at_backR (k + 1, boq1, capq1, padq1, acc ++ [x.id]) ⟨hk2, hpx, hsq1⟩ (by dsimp only at *; omega) (by (repeat' (first | exact Sub.nil | refine Sub.cons ?_ ?_)); all_goals (first | rfl | exact lkInt rfl (by omega))) (Sub.cons rfl (Sub.cons rfl (Sub.cons rfl (Sub.cons rfl (Sub.cons rfl Sub.nil))))) (fun _ hq => hq.drop.drop)
          ·
            refine ct_skip ?_
            refine at_block ?_
            refine at_then ?_
            refine ct_reg ?_
            refine rl_val gw_none (ov_add rfl rfl (by omega)) rfl ?_
            refine rl_val gw_none (ov_move rfl) rfl ?_
            refine rl_nil ?_
            have hpx := selL_no (p := fun (x : Student) => decide (d ≤ x.paid) && decide (x.grade < 10) && decide (10 + 5 * x.grade ≤ x.hours)) (f := fun x => x.id) hacc hx (by first | (simp; omega) | (simp; done) | (simp_all; done) | (simp_all; omega))
            exact at_backR (k + 1, bo, cap, pad, acc) ⟨hk2, hpx, hsl⟩ (by dsimp only at *; omega) (by (repeat' (first | exact Sub.nil | refine Sub.cons ?_ ?_)); all_goals (first | rfl | exact lkInt rfl (by omega))) (Sub.cons rfl (Sub.cons rfl (Sub.cons rfl (Sub.cons rfl (Sub.cons rfl Sub.nil))))) (fun _ hq => hq.drop)
        ·
          have g2' := g2
          try simp only [Bool.not_eq_true', Bool.not_eq_false', Bool.not_not, decide_eq_true_eq, decide_eq_false_iff_not, beq_iff_eq, beq_eq_false_iff_ne, bne_iff_ne, bne_eq_false_iff_eq, Bool.and_eq_true, Bool.or_eq_true, Bool.and_eq_false_iff, Bool.or_eq_false_iff, inB] at g2'
          refine ql_skip (gw_not rfl rfl g2) rfl ?_
          refine ql_skip (gw_not rfl rfl g2) rfl ?_
          refine ql_skip (gw_not rfl rfl g2) rfl ?_
          refine ql_skip (gw_not rfl rfl g2) rfl ?_
          refine ql_skip (gw_not rfl rfl g2) rfl ?_
          refine ql_skip (gw_not rfl rfl g2) rfl ?_
          refine ql_val gw_none (ov_pick_f rfl g2 rfl) rfl ?_
          refine ql_nil ?_
          refine rl_nil ?_
          refine at_then ?_
          refine ct_false rfl rfl ?_
          refine ct_skip ?_
          refine at_block ?_
          refine at_then ?_
          refine ct_reg ?_
          refine rl_val gw_none (ov_add rfl rfl (by omega)) rfl ?_
          refine rl_val gw_none (ov_move rfl) rfl ?_
          refine rl_nil ?_
          have hpx := selL_no (p := fun (x : Student) => decide (d ≤ x.paid) && decide (x.grade < 10) && decide (10 + 5 * x.grade ≤ x.hours)) (f := fun x => x.id) hacc hx (by first | (simp; omega) | (simp; done) | (simp_all; done) | (simp_all; omega))
          exact at_backR (k + 1, bo, cap, pad, acc) ⟨hk2, hpx, hsl⟩ (by dsimp only at *; omega) (by (repeat' (first | exact Sub.nil | refine Sub.cons ?_ ?_)); all_goals (first | rfl | exact lkInt rfl (by omega))) (Sub.cons rfl (Sub.cons rfl (Sub.cons rfl (Sub.cons rfl (Sub.cons rfl Sub.nil))))) (fun _ hq => hq.drop)
      ·
        have g1' := g1
        try simp only [Bool.not_eq_true', Bool.not_eq_false', Bool.not_not, decide_eq_true_eq, decide_eq_false_iff_not, beq_iff_eq, beq_eq_false_iff_ne, bne_iff_ne, bne_eq_false_iff_eq, Bool.and_eq_true, Bool.or_eq_true, Bool.and_eq_false_iff, Bool.or_eq_false_iff, inB] at g1'
        refine ql_skip (gw_not rfl rfl g1) rfl ?_
        refine ql_skip (gw_not rfl rfl g1) rfl ?_
        refine ql_skip (gw_not rfl rfl g1) rfl ?_
        refine ql_val gw_none (ov_pick_f rfl g1 rfl) rfl ?_
        refine ql_val gw_none (ov_move rfl) rfl ?_
        refine ql_skip (gw_not rfl rfl rfl) rfl ?_
        refine ql_skip (gw_not rfl rfl rfl) rfl ?_
        refine ql_skip (gw_not rfl rfl rfl) rfl ?_
        refine ql_skip (gw_not rfl rfl rfl) rfl ?_
        refine ql_skip (gw_not rfl rfl rfl) rfl ?_
        refine ql_skip (gw_not rfl rfl rfl) rfl ?_
        refine ql_val gw_none (ov_pick_f rfl rfl rfl) rfl ?_
        refine ql_nil ?_
        refine rl_nil ?_
        refine at_then ?_
        refine ct_false rfl rfl ?_
        refine ct_skip ?_
        refine at_block ?_
        refine at_then ?_
        refine ct_reg ?_
        refine rl_val gw_none (ov_add rfl rfl (by omega)) rfl ?_
        refine rl_val gw_none (ov_move rfl) rfl ?_
        refine rl_nil ?_
        have hpx := selL_no (p := fun (x : Student) => decide (d ≤ x.paid) && decide (x.grade < 10) && decide (10 + 5 * x.grade ≤ x.hours)) (f := fun x => x.id) hacc hx (by first | (simp; omega) | (simp; done) | (simp_all; done) | (simp_all; omega))
        exact at_backR (k + 1, bo, cap, pad, acc) ⟨hk2, hpx, hsl⟩ (by dsimp only at *; omega) (by (repeat' (first | exact Sub.nil | refine Sub.cons ?_ ?_)); all_goals (first | rfl | exact lkInt rfl (by omega))) (Sub.cons rfl (Sub.cons rfl (Sub.cons rfl (Sub.cons rfl (Sub.cons rfl Sub.nil))))) (fun _ hq => hq.drop)
    ·
      have hke : k = xs.length := by omega
      subst hke
      refine ct_exit ?_
      refine at_then_exit ?_
      refine at_then_exit ?_
      refine at_block_hit ?_
      refine at_then ?_
      refine ct_seq ?_
      refine ct_reg ?_
      refine rl_val gw_none (ov_move rfl) rfl ?_
      refine rl_val gw_none (ov_assign rfl) rfl ?_
      refine rl_val gw_none (ov_assign rfl) rfl ?_
      refine rl_nil ?_
      refine at_then ?_
      refine ct_ret ?_
      refine at_ret2 Try.results36 (ro_tmp rfl) (ro_tmp rfl) (fun w1 hp => ?_)
      first | (rw [selR_no (show (schoolB d xs pa le) = false by simpa using h1), show (schoolB d xs pa le) = false by simpa using h1]; first | exact RetSl.nil hp.ext0 | exact RetSl.lit 0 hp rfl rfl (by decide)) | (rw [selR_yes hok, hok, ← hacc]; exact RetSl.own 0 hp rfl hsl)

theorem sReadyForExam_c (d : Int) (xs : List Student) (pa : Int) (le : Int) (vxs : Value) (w : World) (zd : In64 d) (hGxs : ∀ y ∈ xs, GStudent y) (hsxs : SR w 5 vxs xs.length (flat encStudent xs)) (zpa : In64 pa) (zle : In64 le) : Calls Try.prog 35 ([.agg (List.toArray (α := Value) [.int .i64 d, vxs, .int .i64 pa, .int .i64 le])]).toArray w (fun e w' => RetSl 3 1 (ints (selR (schoolB d xs pa le) (fun (x : Student) => decide (d ≤ x.paid) && decide (x.grade < 10) && decide (10 + 5 * x.grade ≤ x.hours)) (fun (x : Student) => x.id) xs)) ((selR (schoolB d xs pa le) (fun (x : Student) => decide (d ≤ x.paid) && decide (x.grade < 10) && decide (10 + 5 * x.grade ≤ x.hours)) (fun (x : Student) => x.id) xs).length) (fun s => .tuple #[s, .bool (schoolB d xs pa le)]) w e w') := by
  obtain ⟨axs, capxs, rfl, hcapxs, hmaxxs⟩ := hsxs.slice
  have hlenxs := hsxs.len_le
  refine calls_ct Try.func35 Try.ntmps35 rfl rfl ?_
  refine ct_seq ?_
  refine ct_reg ?_
  refine rl_box rfl rfl (fun N1 => ?_)
  refine rl_val gw_none (ov_assign rfl) rfl ?_
  refine rl_val gw_none (ov_assign rfl) rfl ?_
  refine rl_nil ?_
  refine at_then ?_
  refine ct_seq ?_
  refine ct_reg ?_
  refine rl_bslice Try.underlying42 ze3 sz3 rfl rfl rfl rfl rfl rfl (fun N2 => ?_)
  refine rl_val gw_none (ov_assign rfl) rfl ?_
  refine rl_nil ?_
  refine at_then ?_
  refine ct_seq ?_
  refine ct_seq ?_
  refine ct_reg ?_
  first | refine rl_val gw_none (ov_loadall 1 ag24 rfl rfl rfl) rfl ?_ | refine rl_val gw_none (ov_loada 1 ag24 rfl rfl rfl (by assumption)) rfl ?_
  refine rl_callv gw_none goes57 rfl (fun w1 hp => l25Good_c d xs pa le _ _ zd hGxs (hsxs.ext hp.ext0) zpa zle) rfl ?_
  refine rl_val gw_none (ov_not rfl) rfl ?_
  refine rl_nil ?_
  refine at_then ?_
  first | refine ct_dec rfl (fun h1 => ?_) (fun h1 => ?_) | refine ct_ndec rfl (fun h1 => ?_) (fun h1 => ?_) | refine ct_eq rfl (fun h1 => ?_) (fun h1 => ?_) | refine ct_ne rfl (fun h1 => ?_) (fun h1 => ?_) | refine ct_not rfl (fun h1 => ?_) (fun h1 => ?_) | refine ct_cond rfl (fun h1 => ?_) (fun h1 => ?_)
  ·
    refine ct_seq ?_
    refine ct_reg ?_
    refine rl_val gw_none (ov_move rfl) rfl ?_
    refine rl_val gw_none (ov_assign rfl) rfl ?_
    refine rl_val gw_none (ov_assign rfl) rfl ?_
    refine rl_nil ?_
    refine at_then ?_
    refine ct_ret ?_
    refine at_then_ret ?_
    refine at_ret2 Try.results35 (ro_tmp rfl) (ro_tmp rfl) (fun w1 hp => ?_)
    first | (rw [selR_no (show (schoolB d xs pa le) = false by simpa using h1), show (schoolB d xs pa le) = false by simpa using h1]; first | exact RetSl.nil hp.ext0 | exact RetSl.lit 0 hp rfl rfl (by decide)) | (rw [selR_yes hok, hok, ← hacc]; exact RetSl.own 0 hp rfl hsl)
  ·
    have hok : schoolB d xs pa le = true := by simpa using h1
    have hl8 := schoolB_len hok
    refine ct_skip ?_
    refine at_then ?_
    refine ct_seq ?_
    refine ct_seq ?_
    refine ct_reg ?_
    refine rl_val gw_none (ov_assign rfl) rfl ?_
    refine rl_nil ?_
    refine at_then ?_
    refine ct_block ?_
    refine ct_loopR (ι := Nat × Option Nat × Nat × List Value × List Int) (fun p0 => [(4, sv p0.2.1 p0.2.2.2.2.length p0.2.2.1), (5, .int .i64 p0.1)]) [(1, _), (2, _), (3, _)] (fun p0 => (p0.2.1, 3, ints p0.2.2.2.2 ++ p0.2.2.2.1) :: _) (fun p0 => p0.1 ≤ xs.length ∧ p0.2.2.2.2 = selL (fun (x : Student) => decide (d ≤ x.paid) && decide (x.grade < 10) && decide (10 + 5 * x.grade ≤ x.hours)) (fun x => x.id) xs p0.1 ∧ Sl 1 p0.2.1 p0.2.2.2.2.length p0.2.2.1 (ints p0.2.2.2.2) p0.2.2.2.1) (fun p0 => xs.length - p0.1) ((0, some N2, 0, [], [])) (Sub.cons rfl (Sub.cons rfl (Sub.cons rfl Sub.nil))) (fun _ hq => hq) (by (repeat' (first | exact Sub.nil | refine Sub.cons ?_ ?_)); all_goals (first | rfl | exact lkInt rfl (by omega))) ⟨Nat.zero_le _, selL_zero _ _ _, Sl.lit rfl (Nat.zero_le _)⟩ (fun p0 hp0 => ?_)
    obtain ⟨k, bo, cap, pad, acc⟩ := p0
    obtain ⟨hk, hacc, hsl⟩ := hp0
    dsimp only at hk hacc hsl
    have hal := selL_len hacc
    refine ct_seq ?_
    refine ct_seq ?_
    refine ct_reg ?_
    refine rl_val gw_none (ov_move rfl) rfl ?_
    refine rl_val gw_none (ov_field fo24_1 rfl) rfl ?_
    first | refine rl_val gw_none (ov_load 1 sc22 rfl rfl rfl) rfl ?_ | refine rl_val gw_none (ov_load 1 sc22 rfl rfl (by assumption)) rfl ?_
    refine rl_val gw_none (ov_len Try.underlying22 rfl) rfl ?_
    refine rl_val gw_none (ov_lss rfl rfl) rfl ?_
    refine rl_nil ?_
    refine at_then ?_
    first | refine ct_dec rfl (fun h2 => ?_) (fun h2 => ?_) | refine ct_ndec rfl (fun h2 => ?_) (fun h2 => ?_) | refine ct_eq rfl (fun h2 => ?_) (fun h2 => ?_) | refine ct_ne rfl (fun h2 => ?_) (fun h2 => ?_) | refine ct_not rfl (fun h2 => ?_) (fun h2 => ?_) | refine ct_cond rfl (fun h2 => ?_) (fun h2 => ?_)
    ·
      have hk2 : k < xs.length := by omega
      obtain ⟨b, o, rfl, hel⟩ := hsxs.elem encStudent_len (by omega) hk2
      have hx := getLt hk2
      have hsb := schoolB_at hok hx
      generalize xs[k] = x at *
      have hcx := hel k x hx
      obtain ⟨c0, c1, c2, c3, c4, _⟩ := hel k x hx
      refine ct_skip ?_
      refine at_then ?_
      refine ct_seq ?_
      refine ct_block ?_
      refine ct_seq ?_
      refine ct_reg ?_
      refine rl_val gw_none (ov_field fo24_1 rfl) rfl ?_
      first | refine rl_val gw_none (ov_load 1 sc22 rfl rfl rfl) rfl ?_ | refine rl_val gw_none (ov_load 1 sc22 rfl rfl (by assumption)) rfl ?_
      refine rl_val gw_none (ov_move rfl) rfl ?_
      refine rl_val gw_none (ov_ix Try.underlying22 sz69 rfl rfl _ rfl (by omega)) rfl ?_
      first | refine rl_val gw_none (ov_loadaw ag69 rfl rfl (by assumption)) rfl ?_ | refine rl_val gw_none (ov_loadall 0 ag69 rfl rfl rfl) rfl ?_ | refine rl_val gw_none (ov_loadall 1 ag69 rfl rfl rfl) rfl ?_ | refine rl_val gw_none (ov_loadall 2 ag69 rfl rfl rfl) rfl ?_ | refine rl_val gw_none (ov_loadall 3 ag69 rfl rfl rfl) rfl ?_
      refine rl_alloc ze69 rfl (fun N3 => ?_)
      refine rl_store [] sz69 rfl rfl rfl rfl rfl (Nat.le_of_ble_eq_true rfl) ?_
      refine rl_nil ?_
      refine at_then ?_
      refine ct_seq ?_
      refine ct_reg ?_
      refine rl_val gw_none (ov_field fo69_3 rfl) rfl ?_
      first | refine rl_val gw_none (ov_load 0 sc3 rfl rfl rfl) rfl ?_ | refine rl_val gw_none (ov_load 0 sc3 rfl rfl (by assumption)) rfl ?_
      refine rl_val gw_none (ov_field fo24_0 rfl) rfl ?_
      first | refine rl_val gw_none (ov_load 2 sc3 rfl rfl rfl) rfl ?_ | refine rl_val gw_none (ov_load 2 sc3 rfl rfl (by assumption)) rfl ?_
      refine rl_val gw_none (ov_geq rfl rfl) rfl ?_
      refine rl_val gw_none (ov_move rfl) rfl ?_
      refine rl_split (t := 29) rfl (fun g1 => ?_) (fun g1 => ?_)
      ·
        have g1' := g1
        try simp only [Bool.not_eq_true', Bool.not_eq_false', Bool.not_not, decide_eq_true_eq, decide_eq_false_iff_not, beq_iff_eq, beq_eq_false_iff_ne, bne_iff_ne, bne_eq_false_iff_eq, Bool.and_eq_true, Bool.or_eq_true, Bool.and_eq_false_iff, Bool.or_eq_false_iff, inB] at g1'
        refine rl_val (gw_some rfl rfl g1) (ov_field fo69_1 rfl) rfl ?_
        first | refine rl_val (gw_some rfl rfl g1) (ov_load 0 sc3 rfl rfl rfl) rfl ?_ | refine rl_val (gw_some rfl rfl g1) (ov_load 0 sc3 rfl rfl (by assumption)) rfl ?_
        refine rl_val (gw_some rfl rfl g1) (ov_lss rfl rfl) rfl ?_
        refine rl_val gw_none (ov_pick_t rfl g1 rfl) rfl ?_
        refine rl_val gw_none (ov_move rfl) rfl ?_
        refine rl_split (t := 34) rfl (fun g2 => ?_) (fun g2 => ?_)
        ·
          have g2' := g2
          try simp only [Bool.not_eq_true', Bool.not_eq_false', Bool.not_not, decide_eq_true_eq, decide_eq_false_iff_not, beq_iff_eq, beq_eq_false_iff_ne, bne_iff_ne, bne_eq_false_iff_eq, Bool.and_eq_true, Bool.or_eq_true, Bool.and_eq_false_iff, Bool.or_eq_false_iff, inB] at g2'
          first | refine rl_val (gw_some rfl rfl g2) (ov_loadall 0 ag69 rfl rfl rfl) rfl ?_ | refine rl_val (gw_some rfl rfl g2) (ov_loada 0 ag69 rfl rfl rfl (by assumption)) rfl ?_
          refine rl_callv (gw_some rfl rfl g2) goes68 rfl (fun w1 hp => l25Passes_c x 70 _ hsb.2.1) rfl ?_
          refine rl_val gw_none (ov_pick_t rfl g2 rfl) rfl ?_
          refine rl_nil ?_
          refine at_then ?_
          first | refine ct_dec rfl (fun h3 => ?_) (fun h3 => ?_) | refine ct_ndec rfl (fun h3 => ?_) (fun h3 => ?_) | refine ct_eq rfl (fun h3 => ?_) (fun h3 => ?_) | refine ct_ne rfl (fun h3 => ?_) (fun h3 => ?_) | refine ct_not rfl (fun h3 => ?_) (fun h3 => ?_) | refine ct_cond rfl (fun h3 => ?_) (fun h3 => ?_)
          ·
            refine ct_reg ?_
            refine rl_val gw_none (ov_move rfl) rfl ?_
            refine rl_val gw_none (ov_field fo69_0 rfl) rfl ?_
            first | refine rl_val gw_none (ov_load 0 sc3 rfl rfl rfl) rfl ?_ | refine rl_val gw_none (ov_load 0 sc3 rfl rfl (by assumption)) rfl ?_
            refine rl_bslice Try.underlying42 ze3 sz3 rfl rfl rfl rfl rfl rfl (fun N4 => ?_)
            refine rl_appT (ints) (ints_append) [_, _] (acc := acc) Try.underlying42 ze3 sz3 rfl rfl by3 rfl rfl rfl hsl ([x.id]) rfl (fun w1 hp => hp.sr1 0 rfl rfl (by decide)) (ints_one _) (by unfold maxLen; omega) (by omega) rfl (fun boq1 capq1 padq1 hsq1 => ?_)
            refine rl_val gw_none (ov_assign rfl) rfl ?_
            refine rl_nil ?_
            refine at_block ?_
            refine at_then ?_
            refine ct_reg ?_
            refine rl_val gw_none (ov_move rfl) rfl ?_
            refine rl_val gw_none (ov_add rfl rfl (by omega)) rfl ?_
            refine rl_val gw_none (ov_assign rfl) rfl ?_
            refine rl_nil ?_
            have hpx := selL_yes (p := fun (x : Student) => decide (d ≤ x.paid) && decide (x.grade < 10) && decide (10 + 5 * x.grade ≤ x.hours)) (f := fun x => x.id) hacc hx (by first | (simp; omega) | (simp; done) | (simp_all; done) | (simp_all; omega))
            exact at_backR (k + 1, boq1, capq1, padq1, acc ++ [x.id]) ⟨hk2, hpx, hsq1⟩ (by dsimp only at *; omega) (by (repeat' (first | exact Sub.nil | refine Sub.cons ?_ ?_)); all_goals (first | rfl | exact lkInt rfl (by omega))) (Sub.cons rfl (Sub.cons rfl (Sub.cons rfl Sub.nil))) (fun _ hq => hq.drop.drop)
          ·
            refine ct_skip ?_
            refine at_block ?_
            refine at_then ?_
            refine ct_reg ?_
            refine rl_val gw_none (ov_move rfl) rfl ?_
            refine rl_val gw_none (ov_add rfl rfl (by omega)) rfl ?_
            refine rl_val gw_none (ov_assign rfl) rfl ?_
            refine rl_nil ?_
            have hpx := selL_no (p := fun (x : Student) => decide (d ≤ x.paid) && decide (x.grade < 10) && decide (10 + 5 * x.grade ≤ x.hours)) (f := fun x => x.id) hacc hx (by first | (simp; omega) | (simp; done) | (simp_all; done) | (simp_all; omega))
            exact at_backR (k + 1, bo, cap, pad, acc) ⟨hk2, hpx, hsl⟩ (by dsimp only at *; omega) (by (repeat' (first | exact Sub.nil | refine Sub.cons ?_ ?_)); all_goals (first | rfl | exact lkInt rfl (by omega))) (Sub.cons rfl (Sub.cons rfl (Sub.cons rfl Sub.nil))) (fun _ hq => hq.drop)
        ·
          have g2' := g2
          try simp only [Bool.not_eq_true', Bool.not_eq_false', Bool.not_not, decide_eq_true_eq, decide_eq_false_iff_not, beq_iff_eq, beq_eq_false_iff_ne, bne_iff_ne, bne_eq_false_iff_eq, Bool.and_eq_true, Bool.or_eq_true, Bool.and_eq_false_iff, Bool.or_eq_false_iff, inB] at g2'
          refine rl_skip (gw_not rfl rfl g2) rfl ?_
          refine rl_skip (gw_not rfl rfl g2) rfl ?_
          refine rl_val gw_none (ov_pick_f rfl g2 rfl) rfl ?_
          refine rl_nil ?_
          refine at_then ?_
          refine ct_false rfl rfl ?_
          refine ct_skip ?_
          refine at_block ?_
          refine at_then ?_
          refine ct_reg ?_
          refine rl_val gw_none (ov_move rfl) rfl ?_
          refine rl_val gw_none (ov_add rfl rfl (by omega)) rfl ?_
          refine rl_val gw_none (ov_assign rfl) rfl ?_
          refine rl_nil ?_
          have hpx := selL_no (p := fun (x : Student) => decide (d ≤ x.paid) && decide (x.grade < 10) && decide (10 + 5 * x.grade ≤ x.hours)) (f := fun x => x.id) hacc hx (by first | (simp; omega) | (simp; done) | (simp_all; done) | (simp_all; omega))
          exact at_backR (k + 1, bo, cap, pad, acc) ⟨hk2, hpx, hsl⟩ (by dsimp only at *; omega) (by (repeat' (first | exact Sub.nil | refine Sub.cons ?_ ?_)); all_goals (first | rfl | exact lkInt rfl (by omega))) (Sub.cons rfl (Sub.cons rfl (Sub.cons rfl Sub.nil))) (fun _ hq => hq.drop)
      ·
        have g1' := g1
        try simp only [Bool.not_eq_true', Bool.not_eq_false', Bool.not_not, decide_eq_true_eq, decide_eq_false_iff_not, beq_iff_eq, beq_eq_false_iff_ne, bne_iff_ne, bne_eq_false_iff_eq, Bool.and_eq_true, Bool.or_eq_true, Bool.and_eq_false_iff, Bool.or_eq_false_iff, inB] at g1'
        refine rl_skip (gw_not rfl rfl g1) rfl ?_
        refine rl_skip (gw_not rfl rfl g1) rfl ?_
        refine rl_skip (gw_not rfl rfl g1) rfl ?_
        refine rl_val gw_none (ov_pick_f rfl g1 rfl) rfl ?_
        refine rl_val gw_none (ov_move rfl) rfl ?_
        refine rl_skip (gw_not rfl rfl rfl) rfl ?_
        refine rl_skip (gw_not rfl rfl rfl) rfl ?_
        refine rl_val gw_none (ov_pick_f rfl rfl rfl) rfl ?_
        refine rl_nil ?_
        refine at_then ?_
        refine ct_false rfl rfl ?_
        refine ct_skip ?_
        refine at_block ?_
        refine at_then ?_
        refine ct_reg ?_
        refine rl_val gw_none (ov_move rfl) rfl ?_
        refine rl_val gw_none (ov_add rfl rfl (by omega)) rfl ?_
        refine rl_val gw_none (ov_assign rfl) rfl ?_
        refine rl_nil ?_
        have hpx := selL_no (p := fun (x : Student) => decide (d ≤ x.paid) && decide (x.grade < 10) && decide (10 + 5 * x.grade ≤ x.hours)) (f := fun x => x.id) hacc hx (by first | (simp; omega) | (simp; done) | (simp_all; done) | (simp_all; omega))
        exact at_backR (k + 1, bo, cap, pad, acc) ⟨hk2, hpx, hsl⟩ (by dsimp only at *; omega) (by (repeat' (first | exact Sub.nil | refine Sub.cons ?_ ?_)); all_goals (first | rfl | exact lkInt rfl (by omega))) (Sub.cons rfl (Sub.cons rfl (Sub.cons rfl Sub.nil))) (fun _ hq => hq.drop)
    ·
      have hke : k = xs.length := by omega
      subst hke
      refine ct_exit ?_
      refine at_then_exit ?_
      refine at_then_exit ?_
      refine at_block_hit ?_
      refine at_then ?_
      refine ct_seq ?_
      refine ct_reg ?_
      refine rl_val gw_none (ov_move rfl) rfl ?_
      refine rl_val gw_none (ov_assign rfl) rfl ?_
      refine rl_val gw_none (ov_assign rfl) rfl ?_
      refine rl_nil ?_
      refine at_then ?_
      refine ct_ret ?_
      refine at_ret2 Try.results35 (ro_tmp rfl) (ro_tmp rfl) (fun w1 hp => ?_)
      first | (rw [selR_no (show (schoolB d xs pa le) = false by simpa using h1), show (schoolB d xs pa le) = false by simpa using h1]; first | exact RetSl.nil hp.ext0 | exact RetSl.lit 0 hp rfl rfl (by decide)) | (rw [selR_yes hok, hok, ← hacc]; exact RetSl.own 0 hp rfl hsl)
end Go.Proofs.Ytacaoicpmhdioaa
