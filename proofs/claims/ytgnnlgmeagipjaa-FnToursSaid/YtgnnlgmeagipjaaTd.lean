import Derived.Test.YtgnnlgmeagipjaaTc
import Derived.KernelRfl
set_option linter.unusedVariables false
set_option linter.unusedSimpArgs false
namespace Go.Proofs.Ytgnnlgmeagipjaa
open Go Go.RowKit K
theorem iAreRoads_c (xs : List Road) (v : Value) (w : World) (hsr : SR w 3 v xs.length (flat encRoad xs)) : Calls Try.prog 37 ([v]).toArray w (fun e w' => e = .returned (.bool (listB 20 roadStep xs)) ∧ Ext w w') := by
  obtain ⟨a, cap, rfl, hcap, hmax⟩ := hsr.slice
  have hlen := hsr.len_le
  refine calls_ct Try.func37 Try.ntmps37 rfl rfl ?_
  refine ct_seq ?_
  refine ct_reg ?_
  refine rl_val gw_none (ov_assign rfl) rfl ?_
  refine rl_nil ?_
  refine at_then ?_
  refine ct_seq ?_
  refine ct_seq ?_
  refine ct_reg ?_
  refine rl_val gw_none (ov_move rfl) rfl ?_
  refine rl_val gw_none (ov_len Try.underlying28 rfl) rfl ?_
  refine rl_val gw_none (ov_gtr rfl rfl) rfl ?_
  refine rl_nil ?_
  refine at_then ?_
  first | refine ct_dec rfl (fun h1 => ?_) (fun h1 => ?_) | refine ct_ndec rfl (fun h1 => ?_) (fun h1 => ?_) | refine ct_eq rfl (fun h1 => ?_) (fun h1 => ?_) | refine ct_ne rfl (fun h1 => ?_) (fun h1 => ?_) | refine ct_not rfl (fun h1 => ?_) (fun h1 => ?_) | refine ct_cond rfl (fun h1 => ?_) (fun h1 => ?_)
  ·
    refine ct_seq ?_
    refine ct_reg ?_
    refine rl_val gw_none (ov_assign rfl) rfl ?_
    refine rl_nil ?_
    refine at_then ?_
    refine ct_ret ?_
    refine at_then_ret ?_
    refine at_ret1 Try.results37 (ro_tmp rfl) (fun w1 hp => ?_)
    first | (refine ⟨?_, hp.ext0⟩; rw [listB_false hk2 (by rw [hst]; simp_all [roadB, inB]; try omega)]; done) | (refine ⟨?_, hp.ext0⟩; rw [listB_end hall]; first | (simp; done) | (simp; omega)) | (refine ⟨?_, hp.ext0⟩; rw [listB_long (by omega)]; done)
  ·
    refine ct_skip ?_
    refine at_then ?_
    refine ct_seq ?_
    refine ct_seq ?_
    refine ct_reg ?_
    refine rl_val gw_none (ov_move rfl) rfl ?_
    refine rl_val gw_none (ov_len Try.underlying28 rfl) rfl ?_
    refine rl_val gw_none (ov_move rfl) rfl ?_
    refine rl_nil ?_
    refine at_then ?_
    refine ct_block ?_
    refine ct_loopR (ι := Nat) (fun k => [(10, .int .i64 k)]) [(0, _), (8, _), (9, _)] (fun _ => _) (fun k => k ≤ xs.length ∧ ∀ j, j < k → roadStep xs j = true) (fun k => xs.length - k) (0) (Sub.cons rfl (Sub.cons rfl (Sub.cons rfl Sub.nil))) (fun _ hq => hq) (by (repeat' (first | exact Sub.nil | refine Sub.cons ?_ ?_)); all_goals (first | rfl | exact lkInt rfl (by omega))) ⟨Nat.zero_le _, fun j hj => absurd hj (Nat.not_lt_zero j)⟩ (fun k hi => ?_)
    obtain ⟨hk, hall⟩ := hi
    refine ct_seq ?_
    refine ct_reg ?_
    refine rl_val gw_none (ov_lss rfl rfl) rfl ?_
    refine rl_nil ?_
    refine at_then ?_
    refine ct_seq ?_
    first | refine ct_dec rfl (fun h2 => ?_) (fun h2 => ?_) | refine ct_ndec rfl (fun h2 => ?_) (fun h2 => ?_) | refine ct_eq rfl (fun h2 => ?_) (fun h2 => ?_) | refine ct_ne rfl (fun h2 => ?_) (fun h2 => ?_) | refine ct_not rfl (fun h2 => ?_) (fun h2 => ?_) | refine ct_cond rfl (fun h2 => ?_) (fun h2 => ?_)
    ·
      have hk2 : k < xs.length := by omega
      obtain ⟨b, o, rfl, hel⟩ := hsr.elem encRoad_len (by omega) hk2
      have hx := getLt hk2
      have hy := getLt (show k - 1 < xs.length by omega)
      have hst := roadStep_eq hx hy
      have hgood : roadStep xs k = true → (k + 1 ≤ xs.length ∧ ∀ j, j < k + 1 → roadStep xs j = true) := fun ht => ⟨hk2, fun j hj => by by_cases hjk : j = k; exact hjk ▸ ht; exact hall j (by omega)⟩
      generalize xs[k] = x at *
      generalize xs[k - 1] = y at *
      have hcx := hel k x hx
      obtain ⟨c0, c1, c2, _⟩ := hel k x hx
      obtain ⟨d0, d1, d2, _⟩ := hel (k - 1) y hy
      refine ct_skip ?_
      refine at_then ?_
      refine ct_seq ?_
      refine ct_block ?_
      refine ct_seq ?_
      refine ct_reg ?_
      refine rl_val gw_none (ov_move rfl) rfl ?_
      first | refine rl_val gw_none (ov_ix Try.underlying28 sz65 rfl rfl _ rfl (by omega)) rfl ?_ | refine rl_val gw_none (ov_ix Try.underlying28 sz65 rfl rfl (k - 1) (by omega) (by omega)) rfl ?_
      first | refine rl_val gw_none (ov_loadaw ag65 rfl rfl (by assumption)) rfl ?_ | refine rl_val gw_none (ov_loadall 0 ag65 rfl rfl rfl) rfl ?_ | refine rl_val gw_none (ov_loadall 1 ag65 rfl rfl rfl) rfl ?_ | refine rl_val gw_none (ov_loadall 2 ag65 rfl rfl rfl) rfl ?_ | refine rl_val gw_none (ov_loadall 3 ag65 rfl rfl rfl) rfl ?_
      refine rl_alloc ze65 rfl (fun N1 => ?_)
      refine rl_val gw_none (ov_assign rfl) rfl ?_
      refine rl_store [] sz65 rfl rfl rfl rfl rfl (Nat.le_of_ble_eq_true rfl) ?_
      refine rl_nil ?_
      refine at_then ?_
      refine ct_seq ?_
      refine ct_seq ?_
      refine ct_reg ?_
      refine rl_val gw_none (ov_field fo65_0 rfl) rfl ?_
      first | refine rl_val gw_none (ov_load 0 sc3 rfl rfl rfl) rfl ?_ | refine rl_val gw_none (ov_load 0 sc3 rfl rfl (by assumption)) rfl ?_
      refine rl_callv gw_none goes63 rfl (fun w1 hp => isTown_c _ _) rfl ?_
      refine rl_val gw_none (ov_not rfl) rfl ?_
      refine rl_val gw_none (ov_move rfl) rfl ?_
      refine rl_split (t := 19) rfl (fun g1 => ?_) (fun g1 => ?_)
      ·
        have g1' := g1
        try simp only [Bool.not_eq_true', Bool.not_eq_false', Bool.not_not, decide_eq_true_eq, decide_eq_false_iff_not, beq_iff_eq, beq_eq_false_iff_ne, bne_iff_ne, bne_eq_false_iff_eq, Bool.and_eq_true, Bool.or_eq_true, Bool.and_eq_false_iff, Bool.or_eq_false_iff, inB] at g1'
        refine rl_skip (gw_not rfl rfl g1) rfl ?_
        refine rl_skip (gw_not rfl rfl g1) rfl ?_
        refine rl_skip (gw_not rfl rfl g1) rfl ?_
        refine rl_skip (gw_not rfl rfl g1) rfl ?_
        refine rl_val gw_none (ov_pick_t rfl g1 rfl) rfl ?_
        refine rl_val gw_none (ov_move rfl) rfl ?_
        refine rl_skip (gw_not rfl rfl rfl) rfl ?_
        refine rl_skip (gw_not rfl rfl rfl) rfl ?_
        refine rl_skip (gw_not rfl rfl rfl) rfl ?_
        refine rl_skip (gw_not rfl rfl rfl) rfl ?_
        refine rl_skip (gw_not rfl rfl rfl) rfl ?_
        refine rl_val gw_none (ov_pick_t rfl rfl rfl) rfl ?_
        refine rl_val gw_none (ov_move rfl) rfl ?_
        refine rl_skip (gw_not rfl rfl rfl) rfl ?_
        refine rl_skip (gw_not rfl rfl rfl) rfl ?_
        refine rl_skip (gw_not rfl rfl rfl) rfl ?_
        refine rl_skip (gw_not rfl rfl rfl) rfl ?_
        refine rl_val gw_none (ov_pick_t rfl rfl rfl) rfl ?_
        refine rl_nil ?_
        refine at_then ?_
        refine ct_true rfl rfl ?_
        refine ct_seq ?_
        refine ct_reg ?_
        refine rl_val gw_none (ov_assign rfl) rfl ?_
        refine rl_nil ?_
        refine at_then ?_
        refine ct_ret ?_
        refine at_then_ret ?_
        refine at_block_ret ?_
        refine at_then_ret ?_
        refine at_then_ret ?_
        refine at_block_ret ?_
        refine at_then_ret ?_
        refine at_ret1 Try.results37 (ro_tmp rfl) (fun w1 hp => ?_)
        first | (refine ⟨?_, hp.ext0⟩; rw [listB_false hk2 (by rw [hst]; simp_all [roadB, inB]; try omega)]; done) | (refine ⟨?_, hp.ext0⟩; rw [listB_end hall]; first | (simp; done) | (simp; omega)) | (refine ⟨?_, hp.ext0⟩; rw [listB_long (by omega)]; done)
      ·
        have g1' := g1
        try simp only [Bool.not_eq_true', Bool.not_eq_false', Bool.not_not, decide_eq_true_eq, decide_eq_false_iff_not, beq_iff_eq, beq_eq_false_iff_ne, bne_iff_ne, bne_eq_false_iff_eq, Bool.and_eq_true, Bool.or_eq_true, Bool.and_eq_false_iff, Bool.or_eq_false_iff, inB] at g1'
        refine rl_val (gw_some rfl rfl g1) (ov_field fo65_1 rfl) rfl ?_
        first | refine rl_val (gw_some rfl rfl g1) (ov_load 0 sc3 rfl rfl rfl) rfl ?_ | refine rl_val (gw_some rfl rfl g1) (ov_load 0 sc3 rfl rfl (by assumption)) rfl ?_
        refine rl_callv (gw_some rfl rfl g1) goes63 rfl (fun w1 hp => isTown_c _ _) rfl ?_
        refine rl_val (gw_some rfl rfl g1) (ov_not rfl) rfl ?_
        refine rl_val gw_none (ov_pick_f rfl g1 rfl) rfl ?_
        refine rl_val gw_none (ov_move rfl) rfl ?_
        refine rl_split (t := 25) rfl (fun g2 => ?_) (fun g2 => ?_)
        ·
          have g2' := g2
          try simp only [Bool.not_eq_true', Bool.not_eq_false', Bool.not_not, decide_eq_true_eq, decide_eq_false_iff_not, beq_iff_eq, beq_eq_false_iff_ne, bne_iff_ne, bne_eq_false_iff_eq, Bool.and_eq_true, Bool.or_eq_true, Bool.and_eq_false_iff, Bool.or_eq_false_iff, inB] at g2'
          refine rl_skip (gw_not rfl rfl g2) rfl ?_
          refine rl_skip (gw_not rfl rfl g2) rfl ?_
          refine rl_skip (gw_not rfl rfl g2) rfl ?_
          refine rl_skip (gw_not rfl rfl g2) rfl ?_
          refine rl_skip (gw_not rfl rfl g2) rfl ?_
          refine rl_val gw_none (ov_pick_t rfl g2 rfl) rfl ?_
          refine rl_val gw_none (ov_move rfl) rfl ?_
          refine rl_skip (gw_not rfl rfl rfl) rfl ?_
          refine rl_skip (gw_not rfl rfl rfl) rfl ?_
          refine rl_skip (gw_not rfl rfl rfl) rfl ?_
          refine rl_skip (gw_not rfl rfl rfl) rfl ?_
          refine rl_val gw_none (ov_pick_t rfl rfl rfl) rfl ?_
          refine rl_nil ?_
          refine at_then ?_
          refine ct_true rfl rfl ?_
          refine ct_seq ?_
          refine ct_reg ?_
          refine rl_val gw_none (ov_assign rfl) rfl ?_
          refine rl_nil ?_
          refine at_then ?_
          refine ct_ret ?_
          refine at_then_ret ?_
          refine at_block_ret ?_
          refine at_then_ret ?_
          refine at_then_ret ?_
          refine at_block_ret ?_
          refine at_then_ret ?_
          refine at_ret1 Try.results37 (ro_tmp rfl) (fun w1 hp => ?_)
          first | (refine ⟨?_, hp.ext0⟩; rw [listB_false hk2 (by rw [hst]; simp_all [roadB, inB]; try omega)]; done) | (refine ⟨?_, hp.ext0⟩; rw [listB_end hall]; first | (simp; done) | (simp; omega)) | (refine ⟨?_, hp.ext0⟩; rw [listB_long (by omega)]; done)
        ·
          have g2' := g2
          try simp only [Bool.not_eq_true', Bool.not_eq_false', Bool.not_not, decide_eq_true_eq, decide_eq_false_iff_not, beq_iff_eq, beq_eq_false_iff_ne, bne_iff_ne, bne_eq_false_iff_eq, Bool.and_eq_true, Bool.or_eq_true, Bool.and_eq_false_iff, Bool.or_eq_false_iff, inB] at g2'
          refine rl_val (gw_some rfl rfl g2) (ov_field fo65_0 rfl) rfl ?_
          first | refine rl_val (gw_some rfl rfl g2) (ov_load 0 sc3 rfl rfl rfl) rfl ?_ | refine rl_val (gw_some rfl rfl g2) (ov_load 0 sc3 rfl rfl (by assumption)) rfl ?_
          refine rl_val (gw_some rfl rfl g2) (ov_field fo65_1 rfl) rfl ?_
          first | refine rl_val (gw_some rfl rfl g2) (ov_load 0 sc3 rfl rfl rfl) rfl ?_ | refine rl_val (gw_some rfl rfl g2) (ov_load 0 sc3 rfl rfl (by assumption)) rfl ?_
          refine rl_val (gw_some rfl rfl g2) (ov_geq rfl rfl) rfl ?_
          refine rl_val gw_none (ov_pick_f rfl g2 rfl) rfl ?_
          refine rl_val gw_none (ov_move rfl) rfl ?_
          refine rl_split (t := 32) rfl (fun g3 => ?_) (fun g3 => ?_)
          ·
            have g3' := g3
            try simp only [Bool.not_eq_true', Bool.not_eq_false', Bool.not_not, decide_eq_true_eq, decide_eq_false_iff_not, beq_iff_eq, beq_eq_false_iff_ne, bne_iff_ne, bne_eq_false_iff_eq, Bool.and_eq_true, Bool.or_eq_true, Bool.and_eq_false_iff, Bool.or_eq_false_iff, inB] at g3'
            refine rl_skip (gw_not rfl rfl g3) rfl ?_
            refine rl_skip (gw_not rfl rfl g3) rfl ?_
            refine rl_skip (gw_not rfl rfl g3) rfl ?_
            refine rl_skip (gw_not rfl rfl g3) rfl ?_
            refine rl_val gw_none (ov_pick_t rfl g3 rfl) rfl ?_
            refine rl_nil ?_
            refine at_then ?_
            refine ct_true rfl rfl ?_
            refine ct_seq ?_
            refine ct_reg ?_
            refine rl_val gw_none (ov_assign rfl) rfl ?_
            refine rl_nil ?_
            refine at_then ?_
            refine ct_ret ?_
            refine at_then_ret ?_
            refine at_block_ret ?_
            refine at_then_ret ?_
            refine at_then_ret ?_
            refine at_block_ret ?_
            refine at_then_ret ?_
            refine at_ret1 Try.results37 (ro_tmp rfl) (fun w1 hp => ?_)
            first | (refine ⟨?_, hp.ext0⟩; rw [listB_false hk2 (by rw [hst]; simp_all [roadB, inB]; try omega)]; done) | (refine ⟨?_, hp.ext0⟩; rw [listB_end hall]; first | (simp; done) | (simp; omega)) | (refine ⟨?_, hp.ext0⟩; rw [listB_long (by omega)]; done)
          ·
            have g3' := g3
            try simp only [Bool.not_eq_true', Bool.not_eq_false', Bool.not_not, decide_eq_true_eq, decide_eq_false_iff_not, beq_iff_eq, beq_eq_false_iff_ne, bne_iff_ne, bne_eq_false_iff_eq, Bool.and_eq_true, Bool.or_eq_true, Bool.and_eq_false_iff, Bool.or_eq_false_iff, inB] at g3'
            refine rl_val (gw_some rfl rfl g3) (ov_field fo65_2 rfl) rfl ?_
            first | refine rl_val (gw_some rfl rfl g3) (ov_load 0 sc3 rfl rfl rfl) rfl ?_ | refine rl_val (gw_some rfl rfl g3) (ov_load 0 sc3 rfl rfl (by assumption)) rfl ?_
            refine rl_callv (gw_some rfl rfl g3) goes53 rfl (fun w1 hp => within_c _ _ _ _) rfl ?_
            refine rl_val (gw_some rfl rfl g3) (ov_not rfl) rfl ?_
            refine rl_val gw_none (ov_pick_f rfl g3 rfl) rfl ?_
            refine rl_nil ?_
            refine at_then ?_
            first | refine ct_dec rfl (fun h3 => ?_) (fun h3 => ?_) | refine ct_ndec rfl (fun h3 => ?_) (fun h3 => ?_) | refine ct_eq rfl (fun h3 => ?_) (fun h3 => ?_) | refine ct_ne rfl (fun h3 => ?_) (fun h3 => ?_) | refine ct_not rfl (fun h3 => ?_) (fun h3 => ?_) | refine ct_cond rfl (fun h3 => ?_) (fun h3 => ?_)
            ·
              refine ct_seq ?_
              refine ct_reg ?_
              refine rl_val gw_none (ov_assign rfl) rfl ?_
              refine rl_nil ?_
              refine at_then ?_
              refine ct_ret ?_
              refine at_then_ret ?_
              refine at_block_ret ?_
              refine at_then_ret ?_
              refine at_then_ret ?_
              refine at_block_ret ?_
              refine at_then_ret ?_
              refine at_ret1 Try.results37 (ro_tmp rfl) (fun w1 hp => ?_)
              first | (refine ⟨?_, hp.ext0⟩; rw [listB_false hk2 (by rw [hst]; simp_all [roadB, inB]; try omega)]; done) | (refine ⟨?_, hp.ext0⟩; rw [listB_end hall]; first | (simp; done) | (simp; omega)) | (refine ⟨?_, hp.ext0⟩; rw [listB_long (by omega)]; done)
            ·
              refine ct_skip ?_
              refine at_then ?_
              refine ct_seq ?_
              refine ct_dr 35 (by kernel_rfl) (by kernel_rfl) ?_
              refine ql_val gw_none (ov_move rfl) rfl ?_
              refine ql_val gw_none (ov_gtr rfl rfl) rfl ?_
              refine ql_val gw_none (ov_move rfl) rfl ?_
              refine ql_split (t := 40) rfl (fun g4 => ?_) (fun g4 => ?_)
              ·
                have g4' := g4
                try simp only [Bool.not_eq_true', Bool.not_eq_false', Bool.not_not, decide_eq_true_eq, decide_eq_false_iff_not, beq_iff_eq, beq_eq_false_iff_ne, bne_iff_ne, bne_eq_false_iff_eq, Bool.and_eq_true, Bool.or_eq_true, Bool.and_eq_false_iff, Bool.or_eq_false_iff, inB] at g4'
                refine ql_val (gw_some rfl rfl g4) (ov_move rfl) rfl ?_
                refine ql_val (gw_some rfl rfl g4) (ov_move rfl) rfl ?_
                refine ql_val (gw_some rfl rfl g4) (ov_sub rfl rfl (by omega)) rfl ?_
                first | refine ql_val (gw_some rfl rfl g4) (ov_ix Try.underlying28 sz65 rfl rfl _ rfl (by omega)) rfl ?_ | refine ql_val (gw_some rfl rfl g4) (ov_ix Try.underlying28 sz65 rfl rfl (k - 1) (by omega) (by omega)) rfl ?_
                refine ql_val (gw_some rfl rfl g4) (ov_field fo65_0 rfl) rfl ?_
                first | refine ql_val (gw_some rfl rfl g4) (ov_load 0 sc3 rfl rfl rfl) rfl ?_ | refine ql_val (gw_some rfl rfl g4) (ov_load 1 sc3 rfl rfl rfl) rfl ?_ | refine ql_val (gw_some rfl rfl g4) (ov_load 2 sc3 rfl rfl rfl) rfl ?_ | refine ql_val (gw_some rfl rfl g4) (ov_load 3 sc3 rfl rfl rfl) rfl ?_ | refine ql_val (gw_some rfl rfl g4) (ov_loadw sc3 rfl (by assumption)) rfl ?_ | refine ql_val (gw_some rfl rfl g4) (ov_load 0 sc3 rfl rfl (by assumption)) rfl ?_ | refine ql_val (gw_some rfl rfl g4) (ov_load 1 sc3 rfl rfl (by assumption)) rfl ?_ | refine ql_val (gw_some rfl rfl g4) (ov_load 2 sc3 rfl rfl (by assumption)) rfl ?_ | refine ql_val (gw_some rfl rfl g4) (ov_load 3 sc3 rfl rfl (by assumption)) rfl ?_
                refine ql_val (gw_some rfl rfl g4) (ov_field fo65_0 rfl) rfl ?_
                first | refine ql_val (gw_some rfl rfl g4) (ov_load 0 sc3 rfl rfl rfl) rfl ?_ | refine ql_val (gw_some rfl rfl g4) (ov_load 0 sc3 rfl rfl (by assumption)) rfl ?_
                refine ql_val (gw_some rfl rfl g4) (ov_gtr rfl rfl) rfl ?_
                refine ql_val (gw_some rfl rfl g4) (ov_move rfl) rfl ?_
                refine ql_split (t := 50) rfl (fun g5 => ?_) (fun g5 => ?_)
                ·
                  have g5' := g5
                  try simp only [Bool.not_eq_true', Bool.not_eq_false', Bool.not_not, decide_eq_true_eq, decide_eq_false_iff_not, beq_iff_eq, beq_eq_false_iff_ne, bne_iff_ne, bne_eq_false_iff_eq, Bool.and_eq_true, Bool.or_eq_true, Bool.and_eq_false_iff, Bool.or_eq_false_iff, inB] at g5'
                  refine ql_skip (gw_not rfl rfl g5) rfl ?_
                  refine ql_skip (gw_not rfl rfl g5) rfl ?_
                  refine ql_skip (gw_not rfl rfl g5) rfl ?_
                  refine ql_skip (gw_not rfl rfl g5) rfl ?_
                  refine ql_skip (gw_not rfl rfl g5) rfl ?_
                  refine ql_skip (gw_not rfl rfl g5) rfl ?_
                  refine ql_skip (gw_not rfl rfl g5) rfl ?_
                  refine ql_skip (gw_not rfl rfl g5) rfl ?_
                  refine ql_skip (gw_not rfl rfl g5) rfl ?_
                  refine ql_skip (gw_not rfl rfl g5) rfl ?_
                  refine ql_skip (gw_undef rfl rfl) rfl ?_
                  refine ql_skip (gw_undef rfl rfl) rfl ?_
                  refine ql_skip (gw_undef rfl rfl) rfl ?_
                  refine ql_skip (gw_undef rfl rfl) rfl ?_
                  refine ql_skip (gw_undef rfl rfl) rfl ?_
                  refine ql_skip (gw_undef rfl rfl) rfl ?_
                  refine ql_skip (gw_undef rfl rfl) rfl ?_
                  refine ql_skip (gw_undef rfl rfl) rfl ?_
                  refine ql_skip (gw_undef rfl rfl) rfl ?_
                  refine ql_skip (gw_not rfl rfl g5) rfl ?_
                  refine ql_val (gw_some rfl rfl g4) (ov_pick_t rfl g5 rfl) rfl ?_
                  refine ql_val gw_none (ov_pick_t rfl g4 rfl) rfl ?_
                  refine ql_nil ?_
                  refine rl_nil ?_
                  refine at_then ?_
                  refine ct_true rfl rfl ?_
                  refine ct_seq ?_
                  refine ct_reg ?_
                  refine rl_val gw_none (ov_assign rfl) rfl ?_
                  refine rl_nil ?_
                  refine at_then ?_
                  refine ct_ret ?_
                  refine at_block_ret ?_
                  refine at_then_ret ?_
                  refine at_then_ret ?_
                  refine at_block_ret ?_
                  refine at_then_ret ?_
                  refine at_ret1 Try.results37 (ro_tmp rfl) (fun w1 hp => ?_)
                  first | (refine ⟨?_, hp.ext0⟩; rw [listB_false hk2 (by rw [hst]; simp_all [roadB, inB]; try omega)]; done) | (refine ⟨?_, hp.ext0⟩; rw [listB_end hall]; first | (simp; done) | (simp; omega)) | (refine ⟨?_, hp.ext0⟩; rw [listB_long (by omega)]; done)
                ·
                  have g5' := g5
                  try simp only [Bool.not_eq_true', Bool.not_eq_false', Bool.not_not, decide_eq_true_eq, decide_eq_false_iff_not, beq_iff_eq, beq_eq_false_iff_ne, bne_iff_ne, bne_eq_false_iff_eq, Bool.and_eq_true, Bool.or_eq_true, Bool.and_eq_false_iff, Bool.or_eq_false_iff, inB] at g5'
                  refine ql_val (gw_some rfl rfl g5) (ov_move rfl) rfl ?_
                  refine ql_val (gw_some rfl rfl g5) (ov_move rfl) rfl ?_
                  refine ql_val (gw_some rfl rfl g5) (ov_sub rfl rfl (by omega)) rfl ?_
                  first | refine ql_val (gw_some rfl rfl g5) (ov_ix Try.underlying28 sz65 rfl rfl _ rfl (by omega)) rfl ?_ | refine ql_val (gw_some rfl rfl g5) (ov_ix Try.underlying28 sz65 rfl rfl (k - 1) (by omega) (by omega)) rfl ?_
                  refine ql_val (gw_some rfl rfl g5) (ov_field fo65_0 rfl) rfl ?_
                  first | refine ql_val (gw_some rfl rfl g5) (ov_load 0 sc3 rfl rfl rfl) rfl ?_ | refine ql_val (gw_some rfl rfl g5) (ov_load 1 sc3 rfl rfl rfl) rfl ?_ | refine ql_val (gw_some rfl rfl g5) (ov_load 2 sc3 rfl rfl rfl) rfl ?_ | refine ql_val (gw_some rfl rfl g5) (ov_load 3 sc3 rfl rfl rfl) rfl ?_ | refine ql_val (gw_some rfl rfl g5) (ov_loadw sc3 rfl (by assumption)) rfl ?_ | refine ql_val (gw_some rfl rfl g5) (ov_load 0 sc3 rfl rfl (by assumption)) rfl ?_ | refine ql_val (gw_some rfl rfl g5) (ov_load 1 sc3 rfl rfl (by assumption)) rfl ?_ | refine ql_val (gw_some rfl rfl g5) (ov_load 2 sc3 rfl rfl (by assumption)) rfl ?_ | refine ql_val (gw_some rfl rfl g5) (ov_load 3 sc3 rfl rfl (by assumption)) rfl ?_
                  refine ql_val (gw_some rfl rfl g5) (ov_field fo65_0 rfl) rfl ?_
                  first | refine ql_val (gw_some rfl rfl g5) (ov_load 0 sc3 rfl rfl rfl) rfl ?_ | refine ql_val (gw_some rfl rfl g5) (ov_load 0 sc3 rfl rfl (by assumption)) rfl ?_
                  refine ql_val (gw_some rfl rfl g5) (ov_eql rfl rfl) rfl ?_
                  refine ql_val (gw_some rfl rfl g5) (ov_move rfl) rfl ?_
                  refine ql_split (t := 60) rfl (fun g6 => ?_) (fun g6 => ?_)
                  ·
                    have g6' := g6
                    try simp only [Bool.not_eq_true', Bool.not_eq_false', Bool.not_not, decide_eq_true_eq, decide_eq_false_iff_not, beq_iff_eq, beq_eq_false_iff_ne, bne_iff_ne, bne_eq_false_iff_eq, Bool.and_eq_true, Bool.or_eq_true, Bool.and_eq_false_iff, Bool.or_eq_false_iff, inB] at g6'
                    refine ql_val (gw_some rfl rfl g6) (ov_move rfl) rfl ?_
                    refine ql_val (gw_some rfl rfl g6) (ov_move rfl) rfl ?_
                    refine ql_val (gw_some rfl rfl g6) (ov_sub rfl rfl (by omega)) rfl ?_
                    first | refine ql_val (gw_some rfl rfl g6) (ov_ix Try.underlying28 sz65 rfl rfl _ rfl (by omega)) rfl ?_ | refine ql_val (gw_some rfl rfl g6) (ov_ix Try.underlying28 sz65 rfl rfl (k - 1) (by omega) (by omega)) rfl ?_
                    refine ql_val (gw_some rfl rfl g6) (ov_field fo65_1 rfl) rfl ?_
                    first | refine ql_val (gw_some rfl rfl g6) (ov_load 0 sc3 rfl rfl rfl) rfl ?_ | refine ql_val (gw_some rfl rfl g6) (ov_load 1 sc3 rfl rfl rfl) rfl ?_ | refine ql_val (gw_some rfl rfl g6) (ov_load 2 sc3 rfl rfl rfl) rfl ?_ | refine ql_val (gw_some rfl rfl g6) (ov_load 3 sc3 rfl rfl rfl) rfl ?_ | refine ql_val (gw_some rfl rfl g6) (ov_loadw sc3 rfl (by assumption)) rfl ?_ | refine ql_val (gw_some rfl rfl g6) (ov_load 0 sc3 rfl rfl (by assumption)) rfl ?_ | refine ql_val (gw_some rfl rfl g6) (ov_load 1 sc3 rfl rfl (by assumption)) rfl ?_ | refine ql_val (gw_some rfl rfl g6) (ov_load 2 sc3 rfl rfl (by assumption)) rfl ?_ | refine ql_val (gw_some rfl rfl g6) (ov_load 3 sc3 rfl rfl (by assumption)) rfl ?_
                    refine ql_val (gw_some rfl rfl g6) (ov_field fo65_1 rfl) rfl ?_
                    first | refine ql_val (gw_some rfl rfl g6) (ov_load 0 sc3 rfl rfl rfl) rfl ?_ | refine ql_val (gw_some rfl rfl g6) (ov_load 0 sc3 rfl rfl (by assumption)) rfl ?_
                    refine ql_val (gw_some rfl rfl g6) (ov_geq rfl rfl) rfl ?_
                    refine ql_val (gw_some rfl rfl g5) (ov_pick_t rfl g6 rfl) rfl ?_
                    refine ql_val (gw_some rfl rfl g4) (ov_pick_f rfl g5 rfl) rfl ?_
                    refine ql_val gw_none (ov_pick_t rfl g4 rfl) rfl ?_
                    refine ql_nil ?_
                    refine rl_nil ?_
                    refine at_then ?_
                    first | refine ct_dec rfl (fun h4 => ?_) (fun h4 => ?_) | refine ct_ndec rfl (fun h4 => ?_) (fun h4 => ?_) | refine ct_eq rfl (fun h4 => ?_) (fun h4 => ?_) | refine ct_ne rfl (fun h4 => ?_) (fun h4 => ?_) | refine ct_not rfl (fun h4 => ?_) (fun h4 => ?_) | refine ct_cond rfl (fun h4 => ?_) (fun h4 => ?_)
                    ·
                      refine ct_seq ?_
                      refine ct_reg ?_
                      refine rl_val gw_none (ov_assign rfl) rfl ?_
                      refine rl_nil ?_
                      refine at_then ?_
                      refine ct_ret ?_
                      refine at_block_ret ?_
                      refine at_then_ret ?_
                      refine at_then_ret ?_
                      refine at_block_ret ?_
                      refine at_then_ret ?_
                      refine at_ret1 Try.results37 (ro_tmp rfl) (fun w1 hp => ?_)
                      first | (refine ⟨?_, hp.ext0⟩; rw [listB_false hk2 (by rw [hst]; simp_all [roadB, inB]; try omega)]; done) | (refine ⟨?_, hp.ext0⟩; rw [listB_end hall]; first | (simp; done) | (simp; omega)) | (refine ⟨?_, hp.ext0⟩; rw [listB_long (by omega)]; done)
                    ·
                      refine ct_skip ?_
                      refine at_block ?_
                      refine at_then ?_
                      refine ct_reg ?_
                      refine rl_val gw_none (ov_add rfl rfl (by omega)) rfl ?_
                      refine rl_val gw_none (ov_move rfl) rfl ?_
                      refine rl_nil ?_
                      have hstT : roadStep xs k = true := by rw [hst]; simp_all [roadB, inB]; try omega
                      exact at_backR (k + 1) (hgood hstT) (by first | exact True.intro | omega | (dsimp only; omega) | (dsimp only at *; omega)) (by (repeat' (first | exact Sub.nil | refine Sub.cons ?_ ?_)); all_goals (first | rfl | exact lkInt rfl (by omega))) (Sub.cons rfl (Sub.cons rfl (Sub.cons rfl Sub.nil))) (fun _ hq => hq.drop)
                  ·
                    have g6' := g6
                    try simp only [Bool.not_eq_true', Bool.not_eq_false', Bool.not_not, decide_eq_true_eq, decide_eq_false_iff_not, beq_iff_eq, beq_eq_false_iff_ne, bne_iff_ne, bne_eq_false_iff_eq, Bool.and_eq_true, Bool.or_eq_true, Bool.and_eq_false_iff, Bool.or_eq_false_iff, inB] at g6'
                    refine ql_skip (gw_not rfl rfl g6) rfl ?_
                    refine ql_skip (gw_not rfl rfl g6) rfl ?_
                    refine ql_skip (gw_not rfl rfl g6) rfl ?_
                    refine ql_skip (gw_not rfl rfl g6) rfl ?_
                    refine ql_skip (gw_not rfl rfl g6) rfl ?_
                    refine ql_skip (gw_not rfl rfl g6) rfl ?_
                    refine ql_skip (gw_not rfl rfl g6) rfl ?_
                    refine ql_skip (gw_not rfl rfl g6) rfl ?_
                    refine ql_skip (gw_not rfl rfl g6) rfl ?_
                    refine ql_val (gw_some rfl rfl g5) (ov_pick_f rfl g6 rfl) rfl ?_
                    refine ql_val (gw_some rfl rfl g4) (ov_pick_f rfl g5 rfl) rfl ?_
                    refine ql_val gw_none (ov_pick_t rfl g4 rfl) rfl ?_
                    refine ql_nil ?_
                    refine rl_nil ?_
                    refine at_then ?_
                    refine ct_false rfl rfl ?_
                    refine ct_skip ?_
                    refine at_block ?_
                    refine at_then ?_
                    refine ct_reg ?_
                    refine rl_val gw_none (ov_add rfl rfl (by omega)) rfl ?_
                    refine rl_val gw_none (ov_move rfl) rfl ?_
                    refine rl_nil ?_
                    have hstT : roadStep xs k = true := by rw [hst]; simp_all [roadB, inB]; try omega
                    exact at_backR (k + 1) (hgood hstT) (by first | exact True.intro | omega | (dsimp only; omega) | (dsimp only at *; omega)) (by (repeat' (first | exact Sub.nil | refine Sub.cons ?_ ?_)); all_goals (first | rfl | exact lkInt rfl (by omega))) (Sub.cons rfl (Sub.cons rfl (Sub.cons rfl Sub.nil))) (fun _ hq => hq.drop)
              ·
                have g4' := g4
                try simp only [Bool.not_eq_true', Bool.not_eq_false', Bool.not_not, decide_eq_true_eq, decide_eq_false_iff_not, beq_iff_eq, beq_eq_false_iff_ne, bne_iff_ne, bne_eq_false_iff_eq, Bool.and_eq_true, Bool.or_eq_true, Bool.and_eq_false_iff, Bool.or_eq_false_iff, inB] at g4'
                refine ql_skip (gw_not rfl rfl g4) rfl ?_
                refine ql_skip (gw_not rfl rfl g4) rfl ?_
                refine ql_skip (gw_not rfl rfl g4) rfl ?_
                refine ql_skip (gw_not rfl rfl g4) rfl ?_
                refine ql_skip (gw_not rfl rfl g4) rfl ?_
                refine ql_skip (gw_not rfl rfl g4) rfl ?_
                refine ql_skip (gw_not rfl rfl g4) rfl ?_
                refine ql_skip (gw_not rfl rfl g4) rfl ?_
                refine ql_skip (gw_not rfl rfl g4) rfl ?_
                refine ql_skip (gw_not rfl rfl g4) rfl ?_
                refine ql_skip (gw_undef rfl rfl) rfl ?_
                refine ql_skip (gw_undef rfl rfl) rfl ?_
                refine ql_skip (gw_undef rfl rfl) rfl ?_
                refine ql_skip (gw_undef rfl rfl) rfl ?_
                refine ql_skip (gw_undef rfl rfl) rfl ?_
                refine ql_skip (gw_undef rfl rfl) rfl ?_
                refine ql_skip (gw_undef rfl rfl) rfl ?_
                refine ql_skip (gw_undef rfl rfl) rfl ?_
                refine ql_skip (gw_undef rfl rfl) rfl ?_
                refine ql_skip (gw_undef rfl rfl) rfl ?_
                refine ql_skip (gw_undef rfl rfl) rfl ?_
                refine ql_skip (gw_undef rfl rfl) rfl ?_
                refine ql_skip (gw_undef rfl rfl) rfl ?_
                refine ql_skip (gw_undef rfl rfl) rfl ?_
                refine ql_skip (gw_undef rfl rfl) rfl ?_
                refine ql_skip (gw_undef rfl rfl) rfl ?_
                refine ql_skip (gw_undef rfl rfl) rfl ?_
                refine ql_skip (gw_undef rfl rfl) rfl ?_
                refine ql_skip (gw_undef rfl rfl) rfl ?_
                refine ql_skip (gw_undef rfl rfl) rfl ?_
                refine ql_skip (gw_not rfl rfl g4) rfl ?_
                refine ql_val gw_none (ov_pick_f rfl g4 rfl) rfl ?_
                refine ql_nil ?_
                refine rl_nil ?_
                refine at_then ?_
                refine ct_false rfl rfl ?_
                refine ct_skip ?_
                refine at_block ?_
                refine at_then ?_
                refine ct_reg ?_
                refine rl_val gw_none (ov_add rfl rfl (by omega)) rfl ?_
                refine rl_val gw_none (ov_move rfl) rfl ?_
                refine rl_nil ?_
                have hstT : roadStep xs k = true := by rw [hst]; simp_all [roadB, inB]; try omega
                exact at_backR (k + 1) (hgood hstT) (by first | exact True.intro | omega | (dsimp only; omega) | (dsimp only at *; omega)) (by (repeat' (first | exact Sub.nil | refine Sub.cons ?_ ?_)); all_goals (first | rfl | exact lkInt rfl (by omega))) (Sub.cons rfl (Sub.cons rfl (Sub.cons rfl Sub.nil))) (fun _ hq => hq.drop)
    ·
      have hke : k = xs.length := by omega
      subst hke
      refine ct_exit ?_
      refine at_then_exit ?_
      refine at_then_exit ?_
      refine at_block_hit ?_
      refine at_then ?_
      refine ct_seq ?_
      refine ct_reg ?_
      refine rl_val gw_none (ov_assign rfl) rfl ?_
      refine rl_nil ?_
      refine at_then ?_
      refine ct_ret ?_
      refine at_ret1 Try.results37 (ro_tmp rfl) (fun w1 hp => ?_)
      first | (refine ⟨?_, hp.ext0⟩; rw [listB_false hk2 (by rw [hst]; simp_all [roadB, inB]; try omega)]; done) | (refine ⟨?_, hp.ext0⟩; rw [listB_end hall]; first | (simp; done) | (simp; omega)) | (refine ⟨?_, hp.ext0⟩; rw [listB_long (by omega)]; done)
end Go.Proofs.Ytgnnlgmeagipjaa
