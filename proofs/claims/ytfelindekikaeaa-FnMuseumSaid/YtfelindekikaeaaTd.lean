import Derived.Test.YtfelindekikaeaaTb
import Derived.KernelRfl
set_option linter.unusedVariables false
set_option linter.unusedSimpArgs false
namespace Go.Proofs.Ytfelindekikaeaa
open Go Go.RowKit K
theorem l22Good_c (xs : List Exhibit) (vxs : Value) (w : World) (hGxs : ∀ y ∈ xs, GExhibit y) (hsxs : SR w 7 vxs xs.length (flat encExhibit xs)) : Calls Try.prog 60 ([vxs]).toArray w (fun e w' => e = .returned (.bool (exhsB xs)) ∧ Ext w w') := by
  obtain ⟨axs, capxs, rfl, hcapxs, hmaxxs⟩ := hsxs.slice
  have hlenxs := hsxs.len_le
  refine calls_ct Try.func60 Try.ntmps60 rfl rfl ?_
  refine ct_seq ?_
  refine ct_reg ?_
  refine rl_val gw_none (ov_assign rfl) rfl ?_
  refine rl_nil ?_
  refine at_then ?_
  refine ct_seq ?_
  refine ct_seq ?_
  refine ct_reg ?_
  refine rl_val gw_none (ov_assign rfl) rfl ?_
  refine rl_nil ?_
  refine at_then ?_
  refine ct_block ?_
  refine ct_loopR (ι := Nat) (fun k => [(3, .int .i64 k)]) [(0, _)] (fun _ => _) (fun k => k ≤ xs.length ∧ (∀ j, j < k → exhStep xs j = true) ∧ ∀ j, j < k → xs.length ≤ 10 → (∀ y ∈ xs, exhB y = true) → ∀ y, xs[j]? = some y → 0 < y.cs → loadE xs y.cs ≤ 60) (fun k => xs.length - k) (0) (Sub.cons rfl Sub.nil) (fun _ hq => hq) (by (repeat' (first | exact Sub.nil | refine Sub.cons ?_ ?_)); all_goals (first | rfl | exact lkInt rfl (by omega))) ⟨Nat.zero_le _, fun j hj => absurd hj (Nat.not_lt_zero j), fun j hj => absurd hj (Nat.not_lt_zero j)⟩ (fun k hi => ?_)
  obtain ⟨hk, hall, hful⟩ := hi
  refine ct_seq ?_
  refine ct_seq ?_
  refine ct_reg ?_
  refine rl_val gw_none (ov_move rfl) rfl ?_
  refine rl_val gw_none (ov_move rfl) rfl ?_
  refine rl_val gw_none (ov_len Try.underlying27 rfl) rfl ?_
  refine rl_val gw_none (ov_lss rfl rfl) rfl ?_
  refine rl_nil ?_
  refine at_then ?_
  first | refine ct_dec rfl (fun h1 => ?_) (fun h1 => ?_) | refine ct_ndec rfl (fun h1 => ?_) (fun h1 => ?_) | refine ct_eq rfl (fun h1 => ?_) (fun h1 => ?_) | refine ct_ne rfl (fun h1 => ?_) (fun h1 => ?_) | refine ct_not rfl (fun h1 => ?_) (fun h1 => ?_) | refine ct_cond rfl (fun h1 => ?_) (fun h1 => ?_)
  ·
    have hk2 : k < xs.length := by first | omega | (simpa using @g)
    obtain ⟨b, o, rfl, hel⟩ := hsxs.elem encExhibit_len (by omega) hk2
    have hx := getLt hk2
    have hgx := hGxs _ (List.getElem_mem hk2)
    generalize xs[k] = x at *
    have hcx := hel k x hx
    obtain ⟨c0, c1, c2, c3, c4, c5, c6, _⟩ := hel k x hx
    have hy := getLt (show k - 1 < xs.length by omega)
    have hst := exhStep_eq hx hy
    generalize xs[k - 1] = y at *
    obtain ⟨d0, d1, d2, d3, d4, d5, d6, _⟩ := hel (k - 1) y hy
    refine ct_skip ?_
    refine at_then ?_
    refine ct_seq ?_
    refine ct_block ?_
    refine ct_seq ?_
    refine ct_dr 38 (by kernel_rfl) (by kernel_rfl) ?_
    refine ql_val gw_none (ov_move rfl) rfl ?_
    refine ql_val gw_none (ov_move rfl) rfl ?_
    first | refine ql_val gw_none (ov_ix Try.underlying27 sz46 rfl rfl _ rfl (by omega)) rfl ?_ | refine ql_val gw_none (ov_ix Try.underlying27 sz46 rfl rfl (k - 1) (by omega) (by omega)) rfl ?_ | refine ql_val gw_none (ov_ix Try.underlying27 sz46 rfl rfl (k) (by omega) (by omega)) rfl ?_
    first | refine ql_val gw_none (ov_loadaw ag46 rfl rfl (by assumption)) rfl ?_ | refine ql_val gw_none (ov_loadall 0 ag46 rfl rfl rfl) rfl ?_ | refine ql_val gw_none (ov_loadall 1 ag46 rfl rfl rfl) rfl ?_ | refine ql_val gw_none (ov_loadall 2 ag46 rfl rfl rfl) rfl ?_ | refine ql_val gw_none (ov_loadall 3 ag46 rfl rfl rfl) rfl ?_
    refine ql_callv gw_none goes65 rfl (fun w1 hp => l22One_c x _ hgx) rfl ?_
    refine ql_val gw_none (ov_not rfl) rfl ?_
    refine ql_val gw_none (ov_move rfl) rfl ?_
    refine ql_split (t := 16) rfl (fun g1 => ?_) (fun g1 => ?_)
    ·
      have g1' := g1
      try simp only [Bool.not_eq_true', Bool.not_eq_false', Bool.not_not, decide_eq_true_eq, decide_eq_false_iff_not, beq_iff_eq, beq_eq_false_iff_ne, bne_iff_ne, bne_eq_false_iff_eq, Bool.and_eq_true, Bool.or_eq_true, Bool.and_eq_false_iff, Bool.or_eq_false_iff, inB] at g1'
      refine ql_skip (gw_not rfl rfl g1) rfl ?_
      refine ql_skip (gw_not rfl rfl g1) rfl ?_
      refine ql_skip (gw_not rfl rfl g1) rfl ?_
      refine ql_skip (gw_undef rfl rfl) rfl ?_
      refine ql_skip (gw_undef rfl rfl) rfl ?_
      refine ql_skip (gw_undef rfl rfl) rfl ?_
      refine ql_skip (gw_undef rfl rfl) rfl ?_
      refine ql_skip (gw_undef rfl rfl) rfl ?_
      refine ql_skip (gw_undef rfl rfl) rfl ?_
      refine ql_skip (gw_undef rfl rfl) rfl ?_
      refine ql_skip (gw_undef rfl rfl) rfl ?_
      refine ql_skip (gw_undef rfl rfl) rfl ?_
      refine ql_skip (gw_undef rfl rfl) rfl ?_
      refine ql_skip (gw_undef rfl rfl) rfl ?_
      refine ql_skip (gw_undef rfl rfl) rfl ?_
      refine ql_skip (gw_not rfl rfl g1) rfl ?_
      refine ql_val gw_none (ov_pick_t rfl g1 rfl) rfl ?_
      refine ql_val gw_none (ov_move rfl) rfl ?_
      refine ql_skip (gw_not rfl rfl rfl) rfl ?_
      refine ql_skip (gw_not rfl rfl rfl) rfl ?_
      refine ql_skip (gw_not rfl rfl rfl) rfl ?_
      refine ql_skip (gw_not rfl rfl rfl) rfl ?_
      refine ql_skip (gw_not rfl rfl rfl) rfl ?_
      refine ql_skip (gw_not rfl rfl rfl) rfl ?_
      refine ql_skip (gw_not rfl rfl rfl) rfl ?_
      refine ql_skip (gw_undef rfl rfl) rfl ?_
      refine ql_skip (gw_undef rfl rfl) rfl ?_
      refine ql_skip (gw_undef rfl rfl) rfl ?_
      refine ql_skip (gw_undef rfl rfl) rfl ?_
      refine ql_skip (gw_undef rfl rfl) rfl ?_
      refine ql_skip (gw_undef rfl rfl) rfl ?_
      refine ql_nil ?_
      refine rl_skip (gw_undef rfl rfl) rfl ?_
      refine rl_skip (gw_undef rfl rfl) rfl ?_
      refine rl_skip (gw_not rfl rfl rfl) rfl ?_
      refine rl_val gw_none (ov_pick_t rfl rfl rfl) rfl ?_
      refine rl_nil ?_
      refine at_then ?_
      refine ct_true rfl rfl ?_
      refine ct_seq ?_
      refine ct_reg ?_
      refine rl_val gw_none (ov_assign rfl) rfl ?_
      refine rl_nil ?_
      refine at_then ?_
      refine ct_ret ?_
      refine at_block_ret ?_
      refine at_then_ret ?_
      refine at_then_ret ?_
      refine at_block_ret ?_
      refine at_then_ret ?_
      refine at_ret1 Try.results60 (ro_tmp rfl) (fun w1 hp => ?_)
      refine ⟨?_, hp.ext0⟩
      first
      | (have hb : exhB x = false := (by simpa using g1); rw [exhsB_step hk2 (by rw [hst, hb, Bool.false_and])]; done)
      | (have h7 : (k : Int) > 0 := of_decide_eq_true (by assumption); have h8 : y.id ≥ x.id := of_decide_eq_true (by assumption); rw [exhsB_step hk2 (by rw [hst, decide_eq_false (show ¬ k = 0 by omega), decide_eq_false (show ¬ y.id < x.id by omega), Bool.or_false, Bool.and_false])]; done)
    ·
      have g1' := g1
      try simp only [Bool.not_eq_true', Bool.not_eq_false', Bool.not_not, decide_eq_true_eq, decide_eq_false_iff_not, beq_iff_eq, beq_eq_false_iff_ne, bne_iff_ne, bne_eq_false_iff_eq, Bool.and_eq_true, Bool.or_eq_true, Bool.and_eq_false_iff, Bool.or_eq_false_iff, inB] at g1'
      refine ql_val (gw_some rfl rfl g1) (ov_move rfl) rfl ?_
      refine ql_val (gw_some rfl rfl g1) (ov_gtr rfl rfl) rfl ?_
      refine ql_val (gw_some rfl rfl g1) (ov_move rfl) rfl ?_
      refine ql_split (t := 19) rfl (fun g2 => ?_) (fun g2 => ?_)
      ·
        have g2' := g2
        try simp only [Bool.not_eq_true', Bool.not_eq_false', Bool.not_not, decide_eq_true_eq, decide_eq_false_iff_not, beq_iff_eq, beq_eq_false_iff_ne, bne_iff_ne, bne_eq_false_iff_eq, Bool.and_eq_true, Bool.or_eq_true, Bool.and_eq_false_iff, Bool.or_eq_false_iff, inB] at g2'
        refine ql_val (gw_some rfl rfl g2) (ov_move rfl) rfl ?_
        refine ql_val (gw_some rfl rfl g2) (ov_move rfl) rfl ?_
        refine ql_val (gw_some rfl rfl g2) (ov_sub rfl rfl (by omega)) rfl ?_
        first | refine ql_val (gw_some rfl rfl g2) (ov_ix Try.underlying27 sz46 rfl rfl _ rfl (by omega)) rfl ?_ | refine ql_val (gw_some rfl rfl g2) (ov_ix Try.underlying27 sz46 rfl rfl (k - 1) (by omega) (by omega)) rfl ?_ | refine ql_val (gw_some rfl rfl g2) (ov_ix Try.underlying27 sz46 rfl rfl (k) (by omega) (by omega)) rfl ?_
        refine ql_val (gw_some rfl rfl g2) (ov_field fo46_0 rfl) rfl ?_
        first | refine ql_val (gw_some rfl rfl g2) (ov_load 0 sc3 rfl rfl rfl) rfl ?_ | refine ql_val (gw_some rfl rfl g2) (ov_load 1 sc3 rfl rfl rfl) rfl ?_ | refine ql_val (gw_some rfl rfl g2) (ov_load 2 sc3 rfl rfl rfl) rfl ?_ | refine ql_val (gw_some rfl rfl g2) (ov_load 3 sc3 rfl rfl rfl) rfl ?_ | refine ql_val (gw_some rfl rfl g2) (ov_loadw sc3 rfl (by assumption)) rfl ?_ | refine ql_val (gw_some rfl rfl g2) (ov_load 0 sc3 rfl rfl (by assumption)) rfl ?_ | refine ql_val (gw_some rfl rfl g2) (ov_load 1 sc3 rfl rfl (by assumption)) rfl ?_ | refine ql_val (gw_some rfl rfl g2) (ov_load 2 sc3 rfl rfl (by assumption)) rfl ?_ | refine ql_val (gw_some rfl rfl g2) (ov_load 3 sc3 rfl rfl (by assumption)) rfl ?_
        refine ql_val (gw_some rfl rfl g2) (ov_move rfl) rfl ?_
        refine ql_val (gw_some rfl rfl g2) (ov_move rfl) rfl ?_
        first | refine ql_val (gw_some rfl rfl g2) (ov_ix Try.underlying27 sz46 rfl rfl _ rfl (by omega)) rfl ?_ | refine ql_val (gw_some rfl rfl g2) (ov_ix Try.underlying27 sz46 rfl rfl (k - 1) (by omega) (by omega)) rfl ?_ | refine ql_val (gw_some rfl rfl g2) (ov_ix Try.underlying27 sz46 rfl rfl (k) (by omega) (by omega)) rfl ?_
        refine ql_val (gw_some rfl rfl g2) (ov_field fo46_0 rfl) rfl ?_
        first | refine ql_val (gw_some rfl rfl g2) (ov_load 0 sc3 rfl rfl rfl) rfl ?_ | refine ql_val (gw_some rfl rfl g2) (ov_load 1 sc3 rfl rfl rfl) rfl ?_ | refine ql_val (gw_some rfl rfl g2) (ov_load 2 sc3 rfl rfl rfl) rfl ?_ | refine ql_val (gw_some rfl rfl g2) (ov_load 3 sc3 rfl rfl rfl) rfl ?_ | refine ql_val (gw_some rfl rfl g2) (ov_loadw sc3 rfl (by assumption)) rfl ?_ | refine ql_val (gw_some rfl rfl g2) (ov_load 0 sc3 rfl rfl (by assumption)) rfl ?_ | refine ql_val (gw_some rfl rfl g2) (ov_load 1 sc3 rfl rfl (by assumption)) rfl ?_ | refine ql_val (gw_some rfl rfl g2) (ov_load 2 sc3 rfl rfl (by assumption)) rfl ?_ | refine ql_val (gw_some rfl rfl g2) (ov_load 3 sc3 rfl rfl (by assumption)) rfl ?_
        refine ql_val (gw_some rfl rfl g2) (ov_geq rfl rfl) rfl ?_
        refine ql_val (gw_some rfl rfl g1) (ov_pick_t rfl g2 rfl) rfl ?_
        refine ql_val gw_none (ov_pick_f rfl g1 rfl) rfl ?_
        refine ql_val gw_none (ov_move rfl) rfl ?_
        refine ql_split (t := 34) rfl (fun g3 => ?_) (fun g3 => ?_)
        ·
          have g3' := g3
          try simp only [Bool.not_eq_true', Bool.not_eq_false', Bool.not_not, decide_eq_true_eq, decide_eq_false_iff_not, beq_iff_eq, beq_eq_false_iff_ne, bne_iff_ne, bne_eq_false_iff_eq, Bool.and_eq_true, Bool.or_eq_true, Bool.and_eq_false_iff, Bool.or_eq_false_iff, inB] at g3'
          refine ql_skip (gw_not rfl rfl g3) rfl ?_
          refine ql_skip (gw_not rfl rfl g3) rfl ?_
          refine ql_skip (gw_not rfl rfl g3) rfl ?_
          refine ql_skip (gw_not rfl rfl g3) rfl ?_
          refine ql_skip (gw_not rfl rfl g3) rfl ?_
          refine ql_skip (gw_not rfl rfl g3) rfl ?_
          refine ql_skip (gw_not rfl rfl g3) rfl ?_
          refine ql_skip (gw_undef rfl rfl) rfl ?_
          refine ql_skip (gw_undef rfl rfl) rfl ?_
          refine ql_skip (gw_undef rfl rfl) rfl ?_
          refine ql_skip (gw_undef rfl rfl) rfl ?_
          refine ql_skip (gw_undef rfl rfl) rfl ?_
          refine ql_skip (gw_undef rfl rfl) rfl ?_
          refine ql_nil ?_
          refine rl_skip (gw_undef rfl rfl) rfl ?_
          refine rl_skip (gw_undef rfl rfl) rfl ?_
          refine rl_skip (gw_not rfl rfl g3) rfl ?_
          refine rl_val gw_none (ov_pick_t rfl g3 rfl) rfl ?_
          refine rl_nil ?_
          refine at_then ?_
          refine ct_true rfl rfl ?_
          refine ct_seq ?_
          refine ct_reg ?_
          refine rl_val gw_none (ov_assign rfl) rfl ?_
          refine rl_nil ?_
          refine at_then ?_
          refine ct_ret ?_
          refine at_block_ret ?_
          refine at_then_ret ?_
          refine at_then_ret ?_
          refine at_block_ret ?_
          refine at_then_ret ?_
          refine at_ret1 Try.results60 (ro_tmp rfl) (fun w1 hp => ?_)
          refine ⟨?_, hp.ext0⟩
          first
          | (have hb : exhB x = false := (by simpa using g1); rw [exhsB_step hk2 (by rw [hst, hb, Bool.false_and])]; done)
          | (have h7 : (k : Int) > 0 := of_decide_eq_true (by assumption); have h8 : y.id ≥ x.id := of_decide_eq_true (by assumption); rw [exhsB_step hk2 (by rw [hst, decide_eq_false (show ¬ k = 0 by omega), decide_eq_false (show ¬ y.id < x.id by omega), Bool.or_false, Bool.and_false])]; done)
        ·
          have g3' := g3
          try simp only [Bool.not_eq_true', Bool.not_eq_false', Bool.not_not, decide_eq_true_eq, decide_eq_false_iff_not, beq_iff_eq, beq_eq_false_iff_ne, bne_iff_ne, bne_eq_false_iff_eq, Bool.and_eq_true, Bool.or_eq_true, Bool.and_eq_false_iff, Bool.or_eq_false_iff, inB] at g3'
          refine ql_val (gw_some rfl rfl g3) (ov_move rfl) rfl ?_
          refine ql_val (gw_some rfl rfl g3) (ov_move rfl) rfl ?_
          first | refine ql_val (gw_some rfl rfl g3) (ov_ix Try.underlying27 sz46 rfl rfl _ rfl (by omega)) rfl ?_ | refine ql_val (gw_some rfl rfl g3) (ov_ix Try.underlying27 sz46 rfl rfl (k - 1) (by omega) (by omega)) rfl ?_ | refine ql_val (gw_some rfl rfl g3) (ov_ix Try.underlying27 sz46 rfl rfl (k) (by omega) (by omega)) rfl ?_
          refine ql_val (gw_some rfl rfl g3) (ov_field fo46_6 rfl) rfl ?_
          first | refine ql_val (gw_some rfl rfl g3) (ov_load 0 sc3 rfl rfl rfl) rfl ?_ | refine ql_val (gw_some rfl rfl g3) (ov_load 1 sc3 rfl rfl rfl) rfl ?_ | refine ql_val (gw_some rfl rfl g3) (ov_load 2 sc3 rfl rfl rfl) rfl ?_ | refine ql_val (gw_some rfl rfl g3) (ov_load 3 sc3 rfl rfl rfl) rfl ?_ | refine ql_val (gw_some rfl rfl g3) (ov_loadw sc3 rfl (by assumption)) rfl ?_ | refine ql_val (gw_some rfl rfl g3) (ov_load 0 sc3 rfl rfl (by assumption)) rfl ?_ | refine ql_val (gw_some rfl rfl g3) (ov_load 1 sc3 rfl rfl (by assumption)) rfl ?_ | refine ql_val (gw_some rfl rfl g3) (ov_load 2 sc3 rfl rfl (by assumption)) rfl ?_ | refine ql_val (gw_some rfl rfl g3) (ov_load 3 sc3 rfl rfl (by assumption)) rfl ?_
          refine ql_val (gw_some rfl rfl g3) (ov_gtr rfl rfl) rfl ?_
          refine ql_val (gw_some rfl rfl g3) (ov_move rfl) rfl ?_
          refine ql_split (t := 41) rfl (fun g4 => ?_) (fun g4 => ?_)
          ·
            have g4' := g4
            try simp only [Bool.not_eq_true', Bool.not_eq_false', Bool.not_not, decide_eq_true_eq, decide_eq_false_iff_not, beq_iff_eq, beq_eq_false_iff_ne, bne_iff_ne, bne_eq_false_iff_eq, Bool.and_eq_true, Bool.or_eq_true, Bool.and_eq_false_iff, Bool.or_eq_false_iff, inB] at g4'
            refine ql_val (gw_some rfl rfl g4) (ov_move rfl) rfl ?_
            refine ql_val (gw_some rfl rfl g4) (ov_move rfl) rfl ?_
            refine ql_val (gw_some rfl rfl g4) (ov_move rfl) rfl ?_
            first | refine ql_val (gw_some rfl rfl g4) (ov_ix Try.underlying27 sz46 rfl rfl _ rfl (by omega)) rfl ?_ | refine ql_val (gw_some rfl rfl g4) (ov_ix Try.underlying27 sz46 rfl rfl (k - 1) (by omega) (by omega)) rfl ?_ | refine ql_val (gw_some rfl rfl g4) (ov_ix Try.underlying27 sz46 rfl rfl (k) (by omega) (by omega)) rfl ?_
            refine ql_val (gw_some rfl rfl g4) (ov_field fo46_6 rfl) rfl ?_
            first | refine ql_val (gw_some rfl rfl g4) (ov_load 0 sc3 rfl rfl rfl) rfl ?_ | refine ql_val (gw_some rfl rfl g4) (ov_load 1 sc3 rfl rfl rfl) rfl ?_ | refine ql_val (gw_some rfl rfl g4) (ov_load 2 sc3 rfl rfl rfl) rfl ?_ | refine ql_val (gw_some rfl rfl g4) (ov_load 3 sc3 rfl rfl rfl) rfl ?_ | refine ql_val (gw_some rfl rfl g4) (ov_loadw sc3 rfl (by assumption)) rfl ?_ | refine ql_val (gw_some rfl rfl g4) (ov_load 0 sc3 rfl rfl (by assumption)) rfl ?_ | refine ql_val (gw_some rfl rfl g4) (ov_load 1 sc3 rfl rfl (by assumption)) rfl ?_ | refine ql_val (gw_some rfl rfl g4) (ov_load 2 sc3 rfl rfl (by assumption)) rfl ?_ | refine ql_val (gw_some rfl rfl g4) (ov_load 3 sc3 rfl rfl (by assumption)) rfl ?_
            refine ql_nil ?_
            refine rl_callx (ι := Int) (fun r => .int .i64 r) (fun r => LoadI xs x.cs xs.length r) (gw_some rfl rfl g4) goes78 rfl (fun w1 hp => l22Load_c xs _ x.cs _ hGxs (hsxs.ext hp.ext0)) rfl (fun r hr => ?_)
            refine rl_val (gw_some rfl rfl g4) (ov_gtr rfl rfl) rfl ?_
            refine rl_val (gw_some rfl rfl g3) (ov_pick_t rfl g4 rfl) rfl ?_
            refine rl_val gw_none (ov_pick_f rfl g3 rfl) rfl ?_
            refine rl_nil ?_
            refine at_then ?_
            first | refine ct_dec rfl (fun h2 => ?_) (fun h2 => ?_) | refine ct_ndec rfl (fun h2 => ?_) (fun h2 => ?_) | refine ct_eq rfl (fun h2 => ?_) (fun h2 => ?_) | refine ct_ne rfl (fun h2 => ?_) (fun h2 => ?_) | refine ct_not rfl (fun h2 => ?_) (fun h2 => ?_) | refine ct_cond rfl (fun h2 => ?_) (fun h2 => ?_)
            ·
              refine ct_seq ?_
              refine ct_reg ?_
              refine rl_val gw_none (ov_assign rfl) rfl ?_
              refine rl_nil ?_
              refine at_then ?_
              refine ct_ret ?_
              refine at_block_ret ?_
              refine at_then_ret ?_
              refine at_then_ret ?_
              refine at_block_ret ?_
              refine at_then_ret ?_
              refine at_ret1 Try.results60 (ro_tmp rfl) (fun w1 hp => ?_)
              refine ⟨?_, hp.ext0⟩
              have hr2 : xs.length ≤ 10 → (∀ z ∈ xs, exhB z = true) → r = loadE xs x.cs := (fun h10 hm => (by have h9 := hr h10 hm; rwa [List.take_length] at h9))
              have h8 : x.cs > 0 := of_decide_eq_true (by assumption)
              rw [exhsB_full (List.mem_of_getElem? hx) h8 hr2 (by omega)]
            ·
              refine ct_skip ?_
              refine at_block ?_
              refine at_then ?_
              refine ct_reg ?_
              refine rl_val gw_none (ov_move rfl) rfl ?_
              refine rl_val gw_none (ov_add rfl rfl (by omega)) rfl ?_
              refine rl_val gw_none (ov_assign rfl) rfl ?_
              refine rl_nil ?_
              have hstT : exhStep xs k = true := by
                rw [hst, show exhB x = true by simpa using g1, Bool.true_and, Bool.or_eq_true, decide_eq_true_eq, decide_eq_true_eq]
                first
                | (left; have h9 : ¬ ((k : Int) > 0) := of_decide_eq_false (by assumption); omega)
                | (right; have h9 : ¬ (y.id ≥ x.id) := of_decide_eq_false (by assumption); omega)
              have hld : xs.length ≤ 10 → (∀ y ∈ xs, exhB y = true) → 0 < x.cs → loadE xs x.cs ≤ 60 := fun h10 hm hc => by
                have hr2 := hr h10 hm
                rw [List.take_length] at hr2
                omega
              exact at_backR (k + 1) ⟨hk2, fun j hj => by by_cases hjk : j = k; exact hjk ▸ hstT; exact hall j (by omega), fun j hj h10 hm z hz hc => by by_cases hjk : j = k; exact (by subst hjk; rw [hx] at hz; obtain rfl := Option.some.inj hz; exact hld h10 hm hc); exact hful j (by omega) h10 hm z hz hc⟩ (by first | exact True.intro | omega | (dsimp only; omega) | (dsimp only at *; omega)) (by (repeat' (first | exact Sub.nil | refine Sub.cons ?_ ?_)); all_goals (first | rfl | exact lkInt rfl (by omega))) (Sub.cons rfl Sub.nil) (fun _ hq => hq)
          ·
            have g4' := g4
            try simp only [Bool.not_eq_true', Bool.not_eq_false', Bool.not_not, decide_eq_true_eq, decide_eq_false_iff_not, beq_iff_eq, beq_eq_false_iff_ne, bne_iff_ne, bne_eq_false_iff_eq, Bool.and_eq_true, Bool.or_eq_true, Bool.and_eq_false_iff, Bool.or_eq_false_iff, inB] at g4'
            refine ql_skip (gw_not rfl rfl g4) rfl ?_
            refine ql_skip (gw_not rfl rfl g4) rfl ?_
            refine ql_skip (gw_not rfl rfl g4) rfl ?_
            refine ql_skip (gw_not rfl rfl g4) rfl ?_
            refine ql_skip (gw_not rfl rfl g4) rfl ?_
            refine ql_skip (gw_not rfl rfl g4) rfl ?_
            refine ql_nil ?_
            refine rl_skip (gw_not rfl rfl g4) rfl ?_
            refine rl_skip (gw_not rfl rfl g4) rfl ?_
            refine rl_val (gw_some rfl rfl g3) (ov_pick_f rfl g4 rfl) rfl ?_
            refine rl_val gw_none (ov_pick_f rfl g3 rfl) rfl ?_
            refine rl_nil ?_
            refine at_then ?_
            refine ct_false rfl rfl ?_
            refine ct_skip ?_
            refine at_block ?_
            refine at_then ?_
            refine ct_reg ?_
            refine rl_val gw_none (ov_move rfl) rfl ?_
            refine rl_val gw_none (ov_add rfl rfl (by omega)) rfl ?_
            refine rl_val gw_none (ov_assign rfl) rfl ?_
            refine rl_nil ?_
            have hstT : exhStep xs k = true := by
              rw [hst, show exhB x = true by simpa using g1, Bool.true_and, Bool.or_eq_true, decide_eq_true_eq, decide_eq_true_eq]
              first
              | (left; have h9 : ¬ ((k : Int) > 0) := of_decide_eq_false (by assumption); omega)
              | (right; have h9 : ¬ (y.id ≥ x.id) := of_decide_eq_false (by assumption); omega)
            have hld : xs.length ≤ 10 → (∀ y ∈ xs, exhB y = true) → 0 < x.cs → loadE xs x.cs ≤ 60 := fun h10 hm hc => by
              have h9 : ¬ (x.cs > 0) := of_decide_eq_false (by assumption)
              omega
            exact at_backR (k + 1) ⟨hk2, fun j hj => by by_cases hjk : j = k; exact hjk ▸ hstT; exact hall j (by omega), fun j hj h10 hm z hz hc => by by_cases hjk : j = k; exact (by subst hjk; rw [hx] at hz; obtain rfl := Option.some.inj hz; exact hld h10 hm hc); exact hful j (by omega) h10 hm z hz hc⟩ (by first | exact True.intro | omega | (dsimp only; omega) | (dsimp only at *; omega)) (by (repeat' (first | exact Sub.nil | refine Sub.cons ?_ ?_)); all_goals (first | rfl | exact lkInt rfl (by omega))) (Sub.cons rfl Sub.nil) (fun _ hq => hq)
      ·
        have g2' := g2
        try simp only [Bool.not_eq_true', Bool.not_eq_false', Bool.not_not, decide_eq_true_eq, decide_eq_false_iff_not, beq_iff_eq, beq_eq_false_iff_ne, bne_iff_ne, bne_eq_false_iff_eq, Bool.and_eq_true, Bool.or_eq_true, Bool.and_eq_false_iff, Bool.or_eq_false_iff, inB] at g2'
        refine ql_skip (gw_not rfl rfl g2) rfl ?_
        refine ql_skip (gw_not rfl rfl g2) rfl ?_
        refine ql_skip (gw_not rfl rfl g2) rfl ?_
        refine ql_skip (gw_not rfl rfl g2) rfl ?_
        refine ql_skip (gw_not rfl rfl g2) rfl ?_
        refine ql_skip (gw_not rfl rfl g2) rfl ?_
        refine ql_skip (gw_not rfl rfl g2) rfl ?_
        refine ql_skip (gw_not rfl rfl g2) rfl ?_
        refine ql_skip (gw_not rfl rfl g2) rfl ?_
        refine ql_skip (gw_not rfl rfl g2) rfl ?_
        refine ql_skip (gw_not rfl rfl g2) rfl ?_
        refine ql_skip (gw_not rfl rfl g2) rfl ?_
        refine ql_val (gw_some rfl rfl g1) (ov_pick_f rfl g2 rfl) rfl ?_
        refine ql_val gw_none (ov_pick_f rfl g1 rfl) rfl ?_
        refine ql_val gw_none (ov_move rfl) rfl ?_
        refine ql_val (gw_some rfl rfl rfl) (ov_move rfl) rfl ?_
        refine ql_val (gw_some rfl rfl rfl) (ov_move rfl) rfl ?_
        first | refine ql_val (gw_some rfl rfl rfl) (ov_ix Try.underlying27 sz46 rfl rfl _ rfl (by omega)) rfl ?_ | refine ql_val (gw_some rfl rfl rfl) (ov_ix Try.underlying27 sz46 rfl rfl (k - 1) (by omega) (by omega)) rfl ?_ | refine ql_val (gw_some rfl rfl rfl) (ov_ix Try.underlying27 sz46 rfl rfl (k) (by omega) (by omega)) rfl ?_
        refine ql_val (gw_some rfl rfl rfl) (ov_field fo46_6 rfl) rfl ?_
        first | refine ql_val (gw_some rfl rfl rfl) (ov_load 0 sc3 rfl rfl rfl) rfl ?_ | refine ql_val (gw_some rfl rfl rfl) (ov_load 1 sc3 rfl rfl rfl) rfl ?_ | refine ql_val (gw_some rfl rfl rfl) (ov_load 2 sc3 rfl rfl rfl) rfl ?_ | refine ql_val (gw_some rfl rfl rfl) (ov_load 3 sc3 rfl rfl rfl) rfl ?_ | refine ql_val (gw_some rfl rfl rfl) (ov_loadw sc3 rfl (by assumption)) rfl ?_ | refine ql_val (gw_some rfl rfl rfl) (ov_load 0 sc3 rfl rfl (by assumption)) rfl ?_ | refine ql_val (gw_some rfl rfl rfl) (ov_load 1 sc3 rfl rfl (by assumption)) rfl ?_ | refine ql_val (gw_some rfl rfl rfl) (ov_load 2 sc3 rfl rfl (by assumption)) rfl ?_ | refine ql_val (gw_some rfl rfl rfl) (ov_load 3 sc3 rfl rfl (by assumption)) rfl ?_
        refine ql_val (gw_some rfl rfl rfl) (ov_gtr rfl rfl) rfl ?_
        refine ql_val (gw_some rfl rfl rfl) (ov_move rfl) rfl ?_
        refine ql_split (t := 41) rfl (fun g5 => ?_) (fun g5 => ?_)
        ·
          have g5' := g5
          try simp only [Bool.not_eq_true', Bool.not_eq_false', Bool.not_not, decide_eq_true_eq, decide_eq_false_iff_not, beq_iff_eq, beq_eq_false_iff_ne, bne_iff_ne, bne_eq_false_iff_eq, Bool.and_eq_true, Bool.or_eq_true, Bool.and_eq_false_iff, Bool.or_eq_false_iff, inB] at g5'
          refine ql_val (gw_some rfl rfl g5) (ov_move rfl) rfl ?_
          refine ql_val (gw_some rfl rfl g5) (ov_move rfl) rfl ?_
          refine ql_val (gw_some rfl rfl g5) (ov_move rfl) rfl ?_
          first | refine ql_val (gw_some rfl rfl g5) (ov_ix Try.underlying27 sz46 rfl rfl _ rfl (by omega)) rfl ?_ | refine ql_val (gw_some rfl rfl g5) (ov_ix Try.underlying27 sz46 rfl rfl (k - 1) (by omega) (by omega)) rfl ?_ | refine ql_val (gw_some rfl rfl g5) (ov_ix Try.underlying27 sz46 rfl rfl (k) (by omega) (by omega)) rfl ?_
          refine ql_val (gw_some rfl rfl g5) (ov_field fo46_6 rfl) rfl ?_
          first | refine ql_val (gw_some rfl rfl g5) (ov_load 0 sc3 rfl rfl rfl) rfl ?_ | refine ql_val (gw_some rfl rfl g5) (ov_load 1 sc3 rfl rfl rfl) rfl ?_ | refine ql_val (gw_some rfl rfl g5) (ov_load 2 sc3 rfl rfl rfl) rfl ?_ | refine ql_val (gw_some rfl rfl g5) (ov_load 3 sc3 rfl rfl rfl) rfl ?_ | refine ql_val (gw_some rfl rfl g5) (ov_loadw sc3 rfl (by assumption)) rfl ?_ | refine ql_val (gw_some rfl rfl g5) (ov_load 0 sc3 rfl rfl (by assumption)) rfl ?_ | refine ql_val (gw_some rfl rfl g5) (ov_load 1 sc3 rfl rfl (by assumption)) rfl ?_ | refine ql_val (gw_some rfl rfl g5) (ov_load 2 sc3 rfl rfl (by assumption)) rfl ?_ | refine ql_val (gw_some rfl rfl g5) (ov_load 3 sc3 rfl rfl (by assumption)) rfl ?_
          refine ql_nil ?_
          refine rl_callx (ι := Int) (fun r => .int .i64 r) (fun r => LoadI xs x.cs xs.length r) (gw_some rfl rfl g5) goes78 rfl (fun w1 hp => l22Load_c xs _ x.cs _ hGxs (hsxs.ext hp.ext0)) rfl (fun r hr => ?_)
          refine rl_val (gw_some rfl rfl g5) (ov_gtr rfl rfl) rfl ?_
          refine rl_val (gw_some rfl rfl rfl) (ov_pick_t rfl g5 rfl) rfl ?_
          refine rl_val gw_none (ov_pick_f rfl rfl rfl) rfl ?_
          refine rl_nil ?_
          refine at_then ?_
          first | refine ct_dec rfl (fun h3 => ?_) (fun h3 => ?_) | refine ct_ndec rfl (fun h3 => ?_) (fun h3 => ?_) | refine ct_eq rfl (fun h3 => ?_) (fun h3 => ?_) | refine ct_ne rfl (fun h3 => ?_) (fun h3 => ?_) | refine ct_not rfl (fun h3 => ?_) (fun h3 => ?_) | refine ct_cond rfl (fun h3 => ?_) (fun h3 => ?_)
          ·
            refine ct_seq ?_
            refine ct_reg ?_
            refine rl_val gw_none (ov_assign rfl) rfl ?_
            refine rl_nil ?_
            refine at_then ?_
            refine ct_ret ?_
            refine at_block_ret ?_
            refine at_then_ret ?_
            refine at_then_ret ?_
            refine at_block_ret ?_
            refine at_then_ret ?_
            refine at_ret1 Try.results60 (ro_tmp rfl) (fun w1 hp => ?_)
            refine ⟨?_, hp.ext0⟩
            have hr2 : xs.length ≤ 10 → (∀ z ∈ xs, exhB z = true) → r = loadE xs x.cs := (fun h10 hm => (by have h9 := hr h10 hm; rwa [List.take_length] at h9))
            have h8 : x.cs > 0 := of_decide_eq_true (by assumption)
            rw [exhsB_full (List.mem_of_getElem? hx) h8 hr2 (by omega)]
          ·
            refine ct_skip ?_
            refine at_block ?_
            refine at_then ?_
            refine ct_reg ?_
            refine rl_val gw_none (ov_move rfl) rfl ?_
            refine rl_val gw_none (ov_add rfl rfl (by omega)) rfl ?_
            refine rl_val gw_none (ov_assign rfl) rfl ?_
            refine rl_nil ?_
            have hstT : exhStep xs k = true := by
              rw [hst, show exhB x = true by simpa using g1, Bool.true_and, Bool.or_eq_true, decide_eq_true_eq, decide_eq_true_eq]
              first
              | (left; have h9 : ¬ ((k : Int) > 0) := of_decide_eq_false (by assumption); omega)
              | (right; have h9 : ¬ (y.id ≥ x.id) := of_decide_eq_false (by assumption); omega)
            have hld : xs.length ≤ 10 → (∀ y ∈ xs, exhB y = true) → 0 < x.cs → loadE xs x.cs ≤ 60 := fun h10 hm hc => by
              have hr2 := hr h10 hm
              rw [List.take_length] at hr2
              omega
            exact at_backR (k + 1) ⟨hk2, fun j hj => by by_cases hjk : j = k; exact hjk ▸ hstT; exact hall j (by omega), fun j hj h10 hm z hz hc => by by_cases hjk : j = k; exact (by subst hjk; rw [hx] at hz; obtain rfl := Option.some.inj hz; exact hld h10 hm hc); exact hful j (by omega) h10 hm z hz hc⟩ (by first | exact True.intro | omega | (dsimp only; omega) | (dsimp only at *; omega)) (by (repeat' (first | exact Sub.nil | refine Sub.cons ?_ ?_)); all_goals (first | rfl | exact lkInt rfl (by omega))) (Sub.cons rfl Sub.nil) (fun _ hq => hq)
        ·
          have g5' := g5
          try simp only [Bool.not_eq_true', Bool.not_eq_false', Bool.not_not, decide_eq_true_eq, decide_eq_false_iff_not, beq_iff_eq, beq_eq_false_iff_ne, bne_iff_ne, bne_eq_false_iff_eq, Bool.and_eq_true, Bool.or_eq_true, Bool.and_eq_false_iff, Bool.or_eq_false_iff, inB] at g5'
          refine ql_skip (gw_not rfl rfl g5) rfl ?_
          refine ql_skip (gw_not rfl rfl g5) rfl ?_
          refine ql_skip (gw_not rfl rfl g5) rfl ?_
          refine ql_skip (gw_not rfl rfl g5) rfl ?_
          refine ql_skip (gw_not rfl rfl g5) rfl ?_
          refine ql_skip (gw_not rfl rfl g5) rfl ?_
          refine ql_nil ?_
          refine rl_skip (gw_not rfl rfl g5) rfl ?_
          refine rl_skip (gw_not rfl rfl g5) rfl ?_
          refine rl_val (gw_some rfl rfl rfl) (ov_pick_f rfl g5 rfl) rfl ?_
          refine rl_val gw_none (ov_pick_f rfl rfl rfl) rfl ?_
          refine rl_nil ?_
          refine at_then ?_
          refine ct_false rfl rfl ?_
          refine ct_skip ?_
          refine at_block ?_
          refine at_then ?_
          refine ct_reg ?_
          refine rl_val gw_none (ov_move rfl) rfl ?_
          refine rl_val gw_none (ov_add rfl rfl (by omega)) rfl ?_
          refine rl_val gw_none (ov_assign rfl) rfl ?_
          refine rl_nil ?_
          have hstT : exhStep xs k = true := by
            rw [hst, show exhB x = true by simpa using g1, Bool.true_and, Bool.or_eq_true, decide_eq_true_eq, decide_eq_true_eq]
            first
            | (left; have h9 : ¬ ((k : Int) > 0) := of_decide_eq_false (by assumption); omega)
            | (right; have h9 : ¬ (y.id ≥ x.id) := of_decide_eq_false (by assumption); omega)
          have hld : xs.length ≤ 10 → (∀ y ∈ xs, exhB y = true) → 0 < x.cs → loadE xs x.cs ≤ 60 := fun h10 hm hc => by
            have h9 : ¬ (x.cs > 0) := of_decide_eq_false (by assumption)
            omega
          exact at_backR (k + 1) ⟨hk2, fun j hj => by by_cases hjk : j = k; exact hjk ▸ hstT; exact hall j (by omega), fun j hj h10 hm z hz hc => by by_cases hjk : j = k; exact (by subst hjk; rw [hx] at hz; obtain rfl := Option.some.inj hz; exact hld h10 hm hc); exact hful j (by omega) h10 hm z hz hc⟩ (by first | exact True.intro | omega | (dsimp only; omega) | (dsimp only at *; omega)) (by (repeat' (first | exact Sub.nil | refine Sub.cons ?_ ?_)); all_goals (first | rfl | exact lkInt rfl (by omega))) (Sub.cons rfl Sub.nil) (fun _ hq => hq)
  ·
    have hke : k = xs.length := by omega
    subst hke
    refine ct_exit ?_
    refine at_then_exit ?_
    refine at_then_exit ?_
    refine at_block_hit ?_
    refine at_then ?_
    refine ct_seq ?_
    refine ct_reg ?_
    refine rl_val gw_none (ov_move rfl) rfl ?_
    refine rl_val gw_none (ov_len Try.underlying27 rfl) rfl ?_
    refine rl_val gw_none (ov_leq rfl rfl) rfl ?_
    refine rl_val gw_none (ov_assign rfl) rfl ?_
    refine rl_nil ?_
    refine at_then ?_
    refine ct_ret ?_
    refine at_ret1 Try.results60 (ro_tmp rfl) (fun w1 hp => ?_)
    refine ⟨?_, hp.ext0⟩
    rw [exhsB_end hall (fun h10 hm y hy hc => by obtain ⟨j, hj⟩ := List.mem_iff_getElem?.1 hy; exact hful j (List.getElem?_eq_some_iff.1 hj).1 h10 hm y hj hc)]
    first | done | (rw [show decide (xs.length ≤ 10) = decide ((xs.length : Int) ≤ 10) by congr 1; exact propext (by omega)])
end Go.Proofs.Ytfelindekikaeaa
