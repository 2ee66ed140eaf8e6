import Derived.Test.YtfelindekikaeaaTb
import Derived.KernelRfl
set_option linter.unusedVariables false
set_option linter.unusedSimpArgs false
namespace Go.Proofs.Ytfelindekikaeaa
open Go Go.RowKit K
theorem iAreExhibits_c (xs : List Exhibit) (vxs : Value) (w : World) (hGxs : ∀ y ∈ xs, GExhibit y) (hsxs : SR w 7 vxs xs.length (flat encExhibit xs)) : Calls Try.prog 43 ([vxs]).toArray w (fun e w' => e = .returned (.bool (exhsB xs)) ∧ Ext w w') := by
  obtain ⟨axs, capxs, rfl, hcapxs, hmaxxs⟩ := hsxs.slice
  have hlenxs := hsxs.len_le
  refine calls_ct Try.func43 Try.ntmps43 rfl rfl ?_
  refine ct_seq ?_
  refine ct_reg ?_
  refine rl_val gw_none (ov_assign rfl) rfl ?_
  refine rl_nil ?_
  refine at_then ?_
  refine ct_seq ?_
  refine ct_seq ?_
  refine ct_reg ?_
  refine rl_val gw_none (ov_move rfl) rfl ?_
  refine rl_val gw_none (ov_len Try.underlying27 rfl) rfl ?_
  refine rl_val gw_none (ov_gtr rfl rfl) rfl ?_
  refine rl_nil ?_
  refine at_then ?_
  first | refine ct_dec rfl (fun h1 => ?_) (fun h1 => ?_) | refine ct_ndec rfl (fun h1 => ?_) (fun h1 => ?_) | refine ct_eq rfl (fun h1 => ?_) (fun h1 => ?_) | refine ct_ne rfl (fun h1 => ?_) (fun h1 => ?_) | refine ct_not rfl (fun h1 => ?_) (fun h1 => ?_) | refine ct_cond rfl (fun h1 => ?_) (fun h1 => ?_)
  ·
    refine ct_seq ?_
    refine ct_reg ?_
    refine rl_val gw_none (ov_assign rfl) rfl ?_
    refine rl_nil ?_
    refine at_then ?_
    refine ct_ret ?_
    refine at_then_ret ?_
    refine at_ret1 Try.results43 (ro_tmp rfl) (fun w1 hp => ?_)
    refine ⟨?_, hp.ext0⟩
    first | (rw [exhsB_step hk2 (by rw [hst]; first | (simp_all; done) | (simp_all; omega))]; done) | (rw [exhsB_all (by omega) hall]; done) | (rw [exhsB_long (by omega)]; done)
  ·
    refine ct_skip ?_
    refine at_then ?_
    refine ct_seq ?_
    refine ct_seq ?_
    refine ct_reg ?_
    refine rl_val gw_none (ov_move rfl) rfl ?_
    refine rl_val gw_none (ov_len Try.underlying27 rfl) rfl ?_
    refine rl_val gw_none (ov_move rfl) rfl ?_
    refine rl_nil ?_
    refine at_then ?_
    refine ct_block ?_
    refine ct_loopR (ι := Nat) (fun k => [(10, .int .i64 k)]) [(0, _), (8, _), (9, _)] (fun _ => _) (fun k => k ≤ xs.length ∧ ∀ j, j < k → exhStep xs j = true) (fun k => xs.length - k) (0) (Sub.cons rfl (Sub.cons rfl (Sub.cons rfl Sub.nil))) (fun _ hq => hq) (by (repeat' (first | exact Sub.nil | refine Sub.cons ?_ ?_)); all_goals (first | rfl | exact lkInt rfl (by omega))) ⟨Nat.zero_le _, fun j hj => absurd hj (Nat.not_lt_zero j)⟩ (fun k hi => ?_)
    obtain ⟨hk, hall⟩ := hi
    refine ct_seq ?_
    refine ct_reg ?_
    refine rl_val gw_none (ov_lss rfl rfl) rfl ?_
    refine rl_nil ?_
    refine at_then ?_
    refine ct_seq ?_
    first | refine ct_dec rfl (fun h2 => ?_) (fun h2 => ?_) | refine ct_ndec rfl (fun h2 => ?_) (fun h2 => ?_) | refine ct_eq rfl (fun h2 => ?_) (fun h2 => ?_) | refine ct_ne rfl (fun h2 => ?_) (fun h2 => ?_) | refine ct_not rfl (fun h2 => ?_) (fun h2 => ?_) | refine ct_cond rfl (fun h2 => ?_) (fun h2 => ?_)
    ·
      have hk2 : k < xs.length := by first | omega | (simpa using @g)
      obtain ⟨b, o, rfl, hel⟩ := hsxs.elem encExhibit_len (by omega) hk2
      have hx := getLt hk2
      have hgx := hGxs _ (List.getElem_mem hk2)
      generalize xs[k] = x at *
      have hcx := hel k x hx
      obtain ⟨c0, c1, c2, c3, c4, c5, c6, _⟩ := hel k x hx
      have hy := getLt (show k - 1 < xs.length by omega)
      have hst := exhStep_eq hx hy
      generalize xs[k - 1] = y at *
      obtain ⟨d0, d1, d2, d3, d4, d5, d6, _⟩ := hel (k - 1) y hy
      refine ct_skip ?_
      refine at_then ?_
      refine ct_seq ?_
      refine ct_block ?_
      refine ct_seq ?_
      refine ct_reg ?_
      refine rl_val gw_none (ov_move rfl) rfl ?_
      first | refine rl_val gw_none (ov_ix Try.underlying27 sz46 rfl rfl _ rfl (by omega)) rfl ?_ | refine rl_val gw_none (ov_ix Try.underlying27 sz46 rfl rfl (k - 1) (by omega) (by omega)) rfl ?_ | refine rl_val gw_none (ov_ix Try.underlying27 sz46 rfl rfl (k) (by omega) (by omega)) rfl ?_
      first | refine rl_val gw_none (ov_loadaw ag46 rfl rfl (by assumption)) rfl ?_ | refine rl_val gw_none (ov_loadall 0 ag46 rfl rfl rfl) rfl ?_ | refine rl_val gw_none (ov_loadall 1 ag46 rfl rfl rfl) rfl ?_ | refine rl_val gw_none (ov_loadall 2 ag46 rfl rfl rfl) rfl ?_ | refine rl_val gw_none (ov_loadall 3 ag46 rfl rfl rfl) rfl ?_
      refine rl_alloc ze46 rfl (fun N1 => ?_)
      refine rl_val gw_none (ov_assign rfl) rfl ?_
      refine rl_store [] sz46 rfl rfl rfl rfl rfl (Nat.le_of_ble_eq_true rfl) ?_
      refine rl_nil ?_
      refine at_then ?_
      refine ct_seq ?_
      refine ct_dr 18 (by kernel_rfl) (by kernel_rfl) ?_
      first | refine ql_val gw_none (ov_loadall 0 ag46 rfl rfl rfl) rfl ?_ | refine ql_val gw_none (ov_loadp 0 ag46 rfl rfl (vs := [_, _, _, _, _, _, _]) rfl rfl) rfl ?_ | refine ql_val gw_none (ov_loada 0 ag46 rfl rfl rfl (by assumption)) rfl ?_
      refine ql_callv gw_none goes31 rfl (fun w1 hp => iIsExhibit_c x _ hgx) rfl ?_
      refine ql_val gw_none (ov_not rfl) rfl ?_
      refine ql_val gw_none (ov_move rfl) rfl ?_
      refine ql_split (t := 18) rfl (fun g1 => ?_) (fun g1 => ?_)
      ·
        have g1' := g1
        try simp only [Bool.not_eq_true', Bool.not_eq_false', Bool.not_not, decide_eq_true_eq, decide_eq_false_iff_not, beq_iff_eq, beq_eq_false_iff_ne, bne_iff_ne, bne_eq_false_iff_eq, Bool.and_eq_true, Bool.or_eq_true, Bool.and_eq_false_iff, Bool.or_eq_false_iff, inB] at g1'
        refine ql_skip (gw_not rfl rfl g1) rfl ?_
        refine ql_skip (gw_not rfl rfl g1) rfl ?_
        refine ql_skip (gw_not rfl rfl g1) rfl ?_
        refine ql_skip (gw_undef rfl rfl) rfl ?_
        refine ql_skip (gw_undef rfl rfl) rfl ?_
        refine ql_skip (gw_undef rfl rfl) rfl ?_
        refine ql_skip (gw_undef rfl rfl) rfl ?_
        refine ql_skip (gw_undef rfl rfl) rfl ?_
        refine ql_skip (gw_undef rfl rfl) rfl ?_
        refine ql_skip (gw_undef rfl rfl) rfl ?_
        refine ql_skip (gw_undef rfl rfl) rfl ?_
        refine ql_skip (gw_undef rfl rfl) rfl ?_
        refine ql_skip (gw_not rfl rfl g1) rfl ?_
        refine ql_val gw_none (ov_pick_t rfl g1 rfl) rfl ?_
        refine ql_nil ?_
        refine rl_nil ?_
        refine at_then ?_
        refine ct_true rfl rfl ?_
        refine ct_seq ?_
        refine ct_reg ?_
        refine rl_val gw_none (ov_assign rfl) rfl ?_
        refine rl_nil ?_
        refine at_then ?_
        refine ct_ret ?_
        refine at_block_ret ?_
        refine at_then_ret ?_
        refine at_then_ret ?_
        refine at_block_ret ?_
        refine at_then_ret ?_
        refine at_ret1 Try.results43 (ro_tmp rfl) (fun w1 hp => ?_)
        refine ⟨?_, hp.ext0⟩
        first | (rw [exhsB_step hk2 (by rw [hst]; first | (simp_all; done) | (simp_all; omega))]; done) | (rw [exhsB_all (by omega) hall]; done) | (rw [exhsB_long (by omega)]; done)
      ·
        have g1' := g1
        try simp only [Bool.not_eq_true', Bool.not_eq_false', Bool.not_not, decide_eq_true_eq, decide_eq_false_iff_not, beq_iff_eq, beq_eq_false_iff_ne, bne_iff_ne, bne_eq_false_iff_eq, Bool.and_eq_true, Bool.or_eq_true, Bool.and_eq_false_iff, Bool.or_eq_false_iff, inB] at g1'
        refine ql_val (gw_some rfl rfl g1) (ov_move rfl) rfl ?_
        refine ql_val (gw_some rfl rfl g1) (ov_gtr rfl rfl) rfl ?_
        refine ql_val (gw_some rfl rfl g1) (ov_move rfl) rfl ?_
        refine ql_split (t := 21) rfl (fun g2 => ?_) (fun g2 => ?_)
        ·
          have g2' := g2
          try simp only [Bool.not_eq_true', Bool.not_eq_false', Bool.not_not, decide_eq_true_eq, decide_eq_false_iff_not, beq_iff_eq, beq_eq_false_iff_ne, bne_iff_ne, bne_eq_false_iff_eq, Bool.and_eq_true, Bool.or_eq_true, Bool.and_eq_false_iff, Bool.or_eq_false_iff, inB] at g2'
          refine ql_val (gw_some rfl rfl g2) (ov_move rfl) rfl ?_
          refine ql_val (gw_some rfl rfl g2) (ov_move rfl) rfl ?_
          refine ql_val (gw_some rfl rfl g2) (ov_sub rfl rfl (by omega)) rfl ?_
          first | refine ql_val (gw_some rfl rfl g2) (ov_ix Try.underlying27 sz46 rfl rfl _ rfl (by omega)) rfl ?_ | refine ql_val (gw_some rfl rfl g2) (ov_ix Try.underlying27 sz46 rfl rfl (k - 1) (by omega) (by omega)) rfl ?_ | refine ql_val (gw_some rfl rfl g2) (ov_ix Try.underlying27 sz46 rfl rfl (k) (by omega) (by omega)) rfl ?_
          refine ql_val (gw_some rfl rfl g2) (ov_field fo46_0 rfl) rfl ?_
          first | refine ql_val (gw_some rfl rfl g2) (ov_load 0 sc3 rfl rfl rfl) rfl ?_ | refine ql_val (gw_some rfl rfl g2) (ov_load 1 sc3 rfl rfl rfl) rfl ?_ | refine ql_val (gw_some rfl rfl g2) (ov_load 2 sc3 rfl rfl rfl) rfl ?_ | refine ql_val (gw_some rfl rfl g2) (ov_load 3 sc3 rfl rfl rfl) rfl ?_ | refine ql_val (gw_some rfl rfl g2) (ov_loadw sc3 rfl (by assumption)) rfl ?_ | refine ql_val (gw_some rfl rfl g2) (ov_load 0 sc3 rfl rfl (by assumption)) rfl ?_ | refine ql_val (gw_some rfl rfl g2) (ov_load 1 sc3 rfl rfl (by assumption)) rfl ?_ | refine ql_val (gw_some rfl rfl g2) (ov_load 2 sc3 rfl rfl (by assumption)) rfl ?_ | refine ql_val (gw_some rfl rfl g2) (ov_load 3 sc3 rfl rfl (by assumption)) rfl ?_
          refine ql_val (gw_some rfl rfl g2) (ov_field fo46_0 rfl) rfl ?_
          first | refine ql_val (gw_some rfl rfl g2) (ov_load 0 sc3 rfl rfl rfl) rfl ?_ | refine ql_val (gw_some rfl rfl g2) (ov_load 0 sc3 rfl rfl (by assumption)) rfl ?_
          refine ql_val (gw_some rfl rfl g2) (ov_geq rfl rfl) rfl ?_
          refine ql_val (gw_some rfl rfl g1) (ov_pick_t rfl g2 rfl) rfl ?_
          refine ql_val gw_none (ov_pick_f rfl g1 rfl) rfl ?_
          refine ql_nil ?_
          refine rl_nil ?_
          refine at_then ?_
          first | refine ct_dec rfl (fun h3 => ?_) (fun h3 => ?_) | refine ct_ndec rfl (fun h3 => ?_) (fun h3 => ?_) | refine ct_eq rfl (fun h3 => ?_) (fun h3 => ?_) | refine ct_ne rfl (fun h3 => ?_) (fun h3 => ?_) | refine ct_not rfl (fun h3 => ?_) (fun h3 => ?_) | refine ct_cond rfl (fun h3 => ?_) (fun h3 => ?_)
          ·
            refine ct_seq ?_
            refine ct_reg ?_
            refine rl_val gw_none (ov_assign rfl) rfl ?_
            refine rl_nil ?_
            refine at_then ?_
            refine ct_ret ?_
            refine at_block_ret ?_
            refine at_then_ret ?_
            refine at_then_ret ?_
            refine at_block_ret ?_
            refine at_then_ret ?_
            refine at_ret1 Try.results43 (ro_tmp rfl) (fun w1 hp => ?_)
            refine ⟨?_, hp.ext0⟩
            first | (rw [exhsB_step hk2 (by rw [hst]; first | (simp_all; done) | (simp_all; omega))]; done) | (rw [exhsB_all (by omega) hall]; done) | (rw [exhsB_long (by omega)]; done)
          ·
            refine ct_skip ?_
            refine at_block ?_
            refine at_then ?_
            refine ct_reg ?_
            refine rl_val gw_none (ov_add rfl rfl (by omega)) rfl ?_
            refine rl_val gw_none (ov_move rfl) rfl ?_
            refine rl_nil ?_
            have hstT : exhStep xs k = true := by rw [hst]; first | (simp_all; done) | (simp_all; omega)
            exact at_backR (k + 1) ⟨hk2, fun j hj => by by_cases hjk : j = k; exact hjk ▸ hstT; exact hall j (by omega)⟩ (by first | exact True.intro | omega | (dsimp only; omega) | (dsimp only at *; omega)) (by (repeat' (first | exact Sub.nil | refine Sub.cons ?_ ?_)); all_goals (first | rfl | exact lkInt rfl (by omega))) (Sub.cons rfl (Sub.cons rfl (Sub.cons rfl Sub.nil))) (fun _ hq => hq.drop)
        ·
          have g2' := g2
          try simp only [Bool.not_eq_true', Bool.not_eq_false', Bool.not_not, decide_eq_true_eq, decide_eq_false_iff_not, beq_iff_eq, beq_eq_false_iff_ne, bne_iff_ne, bne_eq_false_iff_eq, Bool.and_eq_true, Bool.or_eq_true, Bool.and_eq_false_iff, Bool.or_eq_false_iff, inB] at g2'
          refine ql_skip (gw_not rfl rfl g2) rfl ?_
          refine ql_skip (gw_not rfl rfl g2) rfl ?_
          refine ql_skip (gw_not rfl rfl g2) rfl ?_
          refine ql_skip (gw_not rfl rfl g2) rfl ?_
          refine ql_skip (gw_not rfl rfl g2) rfl ?_
          refine ql_skip (gw_not rfl rfl g2) rfl ?_
          refine ql_skip (gw_not rfl rfl g2) rfl ?_
          refine ql_skip (gw_not rfl rfl g2) rfl ?_
          refine ql_skip (gw_not rfl rfl g2) rfl ?_
          refine ql_val (gw_some rfl rfl g1) (ov_pick_f rfl g2 rfl) rfl ?_
          refine ql_val gw_none (ov_pick_f rfl g1 rfl) rfl ?_
          refine ql_nil ?_
          refine rl_nil ?_
          refine at_then ?_
          refine ct_false rfl rfl ?_
          refine ct_skip ?_
          refine at_block ?_
          refine at_then ?_
          refine ct_reg ?_
          refine rl_val gw_none (ov_add rfl rfl (by omega)) rfl ?_
          refine rl_val gw_none (ov_move rfl) rfl ?_
          refine rl_nil ?_
          have hstT : exhStep xs k = true := by rw [hst]; first | (simp_all; done) | (simp_all; omega)
          exact at_backR (k + 1) ⟨hk2, fun j hj => by by_cases hjk : j = k; exact hjk ▸ hstT; exact hall j (by omega)⟩ (by first | exact True.intro | omega | (dsimp only; omega) | (dsimp only at *; omega)) (by (repeat' (first | exact Sub.nil | refine Sub.cons ?_ ?_)); all_goals (first | rfl | exact lkInt rfl (by omega))) (Sub.cons rfl (Sub.cons rfl (Sub.cons rfl Sub.nil))) (fun _ hq => hq.drop)
    ·
      have hke : k = xs.length := by omega
      subst hke
      refine ct_exit ?_
      refine at_then_exit ?_
      refine at_then_exit ?_
      refine at_block_hit ?_
      refine at_then ?_
      refine ct_seq ?_
      refine ct_reg ?_
      refine rl_val gw_none (ov_move rfl) rfl ?_
      refine rl_callsl (ι := Nat × List Value) (fun i bo => sv bo 9 i.1) (fun i => ints (loadsE xs) ++ i.2) (fun i bo => Sl 1 bo 9 i.1 (ints (loadsE xs)) i.2) goes75 rfl (fun w1 hp => caseLoad_c xs _ _ hGxs (hsxs.ext hp.ext0) (steps_mem hall) (by omega)) rfl (fun ild bold hsld => ?_)
      refine rl_callv gw_none goes76 rfl (fun w1 hp => allWithin_c (loadsE xs) 0 60 _ _ (by rw [loadsE_len]; exact hp.slsr 0 rfl hsld)) rfl ?_
      refine rl_val gw_none (ov_assign rfl) rfl ?_
      refine rl_nil ?_
      refine at_then ?_
      refine ct_ret ?_
      refine at_ret1 Try.results43 (ro_tmp rfl) (fun w1 hp => ?_)
      refine ⟨?_, hp.ext0⟩
      first | (rw [exhsB_step hk2 (by rw [hst]; first | (simp_all; done) | (simp_all; omega))]; done) | (rw [exhsB_all (by omega) hall]; done) | (rw [exhsB_long (by omega)]; done)
end Go.Proofs.Ytfelindekikaeaa
