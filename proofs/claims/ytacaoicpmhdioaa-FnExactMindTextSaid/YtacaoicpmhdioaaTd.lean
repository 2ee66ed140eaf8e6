import Derived.Test.YtacaoicpmhdioaaTa
import Derived.KernelRfl
set_option linter.unusedVariables false
set_option linter.unusedSimpArgs false
namespace Go.Proofs.Ytacaoicpmhdioaa
open Go Go.RowKit K
theorem iIsSchool_c (d : Int) (xs : List Student) (pa : Int) (le : Int) (vxs : Value) (w : World) (zd : In64 d) (hGxs : ∀ y ∈ xs, GStudent y) (hsr : SR w 5 vxs xs.length (flat encStudent xs)) (zpa : In64 pa) (zle : In64 le) : Calls Try.prog 23 ([.agg (List.toArray (α := Value) [.int .i64 d, vxs, .int .i64 pa, .int .i64 le])]).toArray w (fun e w' => e = .returned (.bool (schoolB d xs pa le)) ∧ Ext w w') := by
  obtain ⟨a, cap, rfl, hcap, hmax⟩ := hsr.slice
  have hlen := hsr.len_le
  refine calls_ct Try.func23 Try.ntmps23 rfl rfl ?_
  refine ct_seq ?_
  refine ct_reg ?_
  refine rl_box rfl rfl (fun N1 => ?_)
  refine rl_val gw_none (ov_assign rfl) rfl ?_
  refine rl_nil ?_
  refine at_then ?_
  refine ct_seq ?_
  refine ct_seq ?_
  refine ct_reg ?_
  refine rl_val gw_none (ov_field fo24_0 rfl) rfl ?_
  first | refine rl_val gw_none (ov_load 0 sc3 rfl rfl rfl) rfl ?_ | refine rl_val gw_none (ov_load 0 sc3 rfl rfl (by assumption)) rfl ?_
  refine rl_callv gw_none goes52 rfl (fun w1 hp => isDay_c _ _) rfl ?_
  refine rl_val gw_none (ov_not rfl) rfl ?_
  refine rl_val gw_none (ov_move rfl) rfl ?_
  refine rl_split (t := 9) rfl (fun g1 => ?_) (fun g1 => ?_)
  ·
    have g1' := g1
    try simp only [Bool.not_eq_true', Bool.not_eq_false', Bool.not_not, decide_eq_true_eq, decide_eq_false_iff_not, beq_iff_eq, beq_eq_false_iff_ne, bne_iff_ne, bne_eq_false_iff_eq, Bool.and_eq_true, Bool.or_eq_true, Bool.and_eq_false_iff, Bool.or_eq_false_iff, inB] at g1'
    refine rl_skip (gw_not rfl rfl g1) rfl ?_
    refine rl_skip (gw_not rfl rfl g1) rfl ?_
    refine rl_skip (gw_not rfl rfl g1) rfl ?_
    refine rl_skip (gw_not rfl rfl g1) rfl ?_
    refine rl_val gw_none (ov_pick_t rfl g1 rfl) rfl ?_
    refine rl_val gw_none (ov_move rfl) rfl ?_
    refine rl_skip (gw_not rfl rfl rfl) rfl ?_
    refine rl_skip (gw_not rfl rfl rfl) rfl ?_
    refine rl_skip (gw_not rfl rfl rfl) rfl ?_
    refine rl_skip (gw_not rfl rfl rfl) rfl ?_
    refine rl_val gw_none (ov_pick_t rfl rfl rfl) rfl ?_
    refine rl_val gw_none (ov_move rfl) rfl ?_
    refine rl_skip (gw_not rfl rfl rfl) rfl ?_
    refine rl_skip (gw_not rfl rfl rfl) rfl ?_
    refine rl_skip (gw_not rfl rfl rfl) rfl ?_
    refine rl_skip (gw_not rfl rfl rfl) rfl ?_
    refine rl_val gw_none (ov_pick_t rfl rfl rfl) rfl ?_
    refine rl_nil ?_
    refine at_then ?_
    refine ct_true rfl rfl ?_
    refine ct_seq ?_
    refine ct_reg ?_
    refine rl_val gw_none (ov_assign rfl) rfl ?_
    refine rl_nil ?_
    refine at_then ?_
    refine ct_ret ?_
    refine at_then_ret ?_
    refine at_ret1 Try.results23 (ro_tmp rfl) (fun w1 hp => ?_)
    refine ⟨?_, hp.ext0⟩
    unfold schoolB
    first | (rw [listB_false hk2 (by rw [hst]; simp_all [studentB, inB]; try omega), Bool.and_false]; done) | (rw [listB_end hall]; first | (simp_all [inB]; done) | (simp_all [inB]; omega)) | (rw [listB_long (by first | omega | (simp at *; omega)), Bool.and_false]; done) | (simp_all [inB]; done) | (simp_all [inB]; intros; omega)
  ·
    have g1' := g1
    try simp only [Bool.not_eq_true', Bool.not_eq_false', Bool.not_not, decide_eq_true_eq, decide_eq_false_iff_not, beq_iff_eq, beq_eq_false_iff_ne, bne_iff_ne, bne_eq_false_iff_eq, Bool.and_eq_true, Bool.or_eq_true, Bool.and_eq_false_iff, Bool.or_eq_false_iff, inB] at g1'
    refine rl_val (gw_some rfl rfl g1) (ov_field fo24_1 rfl) rfl ?_
    first | refine rl_val (gw_some rfl rfl g1) (ov_load 0 sc22 rfl rfl rfl) rfl ?_ | refine rl_val (gw_some rfl rfl g1) (ov_load 0 sc22 rfl rfl (by assumption)) rfl ?_
    refine rl_val (gw_some rfl rfl g1) (ov_len Try.underlying22 rfl) rfl ?_
    refine rl_val (gw_some rfl rfl g1) (ov_gtr rfl rfl) rfl ?_
    refine rl_val gw_none (ov_pick_f rfl g1 rfl) rfl ?_
    refine rl_val gw_none (ov_move rfl) rfl ?_
    refine rl_split (t := 15) rfl (fun g2 => ?_) (fun g2 => ?_)
    ·
      have g2' := g2
      try simp only [Bool.not_eq_true', Bool.not_eq_false', Bool.not_not, decide_eq_true_eq, decide_eq_false_iff_not, beq_iff_eq, beq_eq_false_iff_ne, bne_iff_ne, bne_eq_false_iff_eq, Bool.and_eq_true, Bool.or_eq_true, Bool.and_eq_false_iff, Bool.or_eq_false_iff, inB] at g2'
      refine rl_skip (gw_not rfl rfl g2) rfl ?_
      refine rl_skip (gw_not rfl rfl g2) rfl ?_
      refine rl_skip (gw_not rfl rfl g2) rfl ?_
      refine rl_skip (gw_not rfl rfl g2) rfl ?_
      refine rl_val gw_none (ov_pick_t rfl g2 rfl) rfl ?_
      refine rl_val gw_none (ov_move rfl) rfl ?_
      refine rl_skip (gw_not rfl rfl rfl) rfl ?_
      refine rl_skip (gw_not rfl rfl rfl) rfl ?_
      refine rl_skip (gw_not rfl rfl rfl) rfl ?_
      refine rl_skip (gw_not rfl rfl rfl) rfl ?_
      refine rl_val gw_none (ov_pick_t rfl rfl rfl) rfl ?_
      refine rl_nil ?_
      refine at_then ?_
      refine ct_true rfl rfl ?_
      refine ct_seq ?_
      refine ct_reg ?_
      refine rl_val gw_none (ov_assign rfl) rfl ?_
      refine rl_nil ?_
      refine at_then ?_
      refine ct_ret ?_
      refine at_then_ret ?_
      refine at_ret1 Try.results23 (ro_tmp rfl) (fun w1 hp => ?_)
      refine ⟨?_, hp.ext0⟩
      unfold schoolB
      first | (rw [listB_false hk2 (by rw [hst]; simp_all [studentB, inB]; try omega), Bool.and_false]; done) | (rw [listB_end hall]; first | (simp_all [inB]; done) | (simp_all [inB]; omega)) | (rw [listB_long (by first | omega | (simp at *; omega)), Bool.and_false]; done) | (simp_all [inB]; done) | (simp_all [inB]; intros; omega)
    ·
      have g2' := g2
      try simp only [Bool.not_eq_true', Bool.not_eq_false', Bool.not_not, decide_eq_true_eq, decide_eq_false_iff_not, beq_iff_eq, beq_eq_false_iff_ne, bne_iff_ne, bne_eq_false_iff_eq, Bool.and_eq_true, Bool.or_eq_true, Bool.and_eq_false_iff, Bool.or_eq_false_iff, inB] at g2'
      refine rl_val (gw_some rfl rfl g2) (ov_field fo24_2 rfl) rfl ?_
      first | refine rl_val (gw_some rfl rfl g2) (ov_load 0 sc3 rfl rfl rfl) rfl ?_ | refine rl_val (gw_some rfl rfl g2) (ov_load 0 sc3 rfl rfl (by assumption)) rfl ?_
      refine rl_callv (gw_some rfl rfl g2) goes59 rfl (fun w1 hp => isCount_c _ _) rfl ?_
      refine rl_val (gw_some rfl rfl g2) (ov_not rfl) rfl ?_
      refine rl_val gw_none (ov_pick_f rfl g2 rfl) rfl ?_
      refine rl_val gw_none (ov_move rfl) rfl ?_
      refine rl_split (t := 21) rfl (fun g3 => ?_) (fun g3 => ?_)
      ·
        have g3' := g3
        try simp only [Bool.not_eq_true', Bool.not_eq_false', Bool.not_not, decide_eq_true_eq, decide_eq_false_iff_not, beq_iff_eq, beq_eq_false_iff_ne, bne_iff_ne, bne_eq_false_iff_eq, Bool.and_eq_true, Bool.or_eq_true, Bool.and_eq_false_iff, Bool.or_eq_false_iff, inB] at g3'
        refine rl_skip (gw_not rfl rfl g3) rfl ?_
        refine rl_skip (gw_not rfl rfl g3) rfl ?_
        refine rl_skip (gw_not rfl rfl g3) rfl ?_
        refine rl_skip (gw_not rfl rfl g3) rfl ?_
        refine rl_val gw_none (ov_pick_t rfl g3 rfl) rfl ?_
        refine rl_nil ?_
        refine at_then ?_
        refine ct_true rfl rfl ?_
        refine ct_seq ?_
        refine ct_reg ?_
        refine rl_val gw_none (ov_assign rfl) rfl ?_
        refine rl_nil ?_
        refine at_then ?_
        refine ct_ret ?_
        refine at_then_ret ?_
        refine at_ret1 Try.results23 (ro_tmp rfl) (fun w1 hp => ?_)
        refine ⟨?_, hp.ext0⟩
        unfold schoolB
        first | (rw [listB_false hk2 (by rw [hst]; simp_all [studentB, inB]; try omega), Bool.and_false]; done) | (rw [listB_end hall]; first | (simp_all [inB]; done) | (simp_all [inB]; omega)) | (rw [listB_long (by first | omega | (simp at *; omega)), Bool.and_false]; done) | (simp_all [inB]; done) | (simp_all [inB]; intros; omega)
      ·
        have g3' := g3
        try simp only [Bool.not_eq_true', Bool.not_eq_false', Bool.not_not, decide_eq_true_eq, decide_eq_false_iff_not, beq_iff_eq, beq_eq_false_iff_ne, bne_iff_ne, bne_eq_false_iff_eq, Bool.and_eq_true, Bool.or_eq_true, Bool.and_eq_false_iff, Bool.or_eq_false_iff, inB] at g3'
        refine rl_val (gw_some rfl rfl g3) (ov_field fo24_3 rfl) rfl ?_
        first | refine rl_val (gw_some rfl rfl g3) (ov_load 0 sc3 rfl rfl rfl) rfl ?_ | refine rl_val (gw_some rfl rfl g3) (ov_load 0 sc3 rfl rfl (by assumption)) rfl ?_
        refine rl_callv (gw_some rfl rfl g3) goes59 rfl (fun w1 hp => isCount_c _ _) rfl ?_
        refine rl_val (gw_some rfl rfl g3) (ov_not rfl) rfl ?_
        refine rl_val gw_none (ov_pick_f rfl g3 rfl) rfl ?_
        refine rl_nil ?_
        refine at_then ?_
        first | refine ct_dec rfl (fun h1 => ?_) (fun h1 => ?_) | refine ct_ndec rfl (fun h1 => ?_) (fun h1 => ?_) | refine ct_eq rfl (fun h1 => ?_) (fun h1 => ?_) | refine ct_ne rfl (fun h1 => ?_) (fun h1 => ?_) | refine ct_not rfl (fun h1 => ?_) (fun h1 => ?_) | refine ct_cond rfl (fun h1 => ?_) (fun h1 => ?_)
        ·
          refine ct_seq ?_
          refine ct_reg ?_
          refine rl_val gw_none (ov_assign rfl) rfl ?_
          refine rl_nil ?_
          refine at_then ?_
          refine ct_ret ?_
          refine at_then_ret ?_
          refine at_ret1 Try.results23 (ro_tmp rfl) (fun w1 hp => ?_)
          refine ⟨?_, hp.ext0⟩
          unfold schoolB
          first | (rw [listB_false hk2 (by rw [hst]; simp_all [studentB, inB]; try omega), Bool.and_false]; done) | (rw [listB_end hall]; first | (simp_all [inB]; done) | (simp_all [inB]; omega)) | (rw [listB_long (by first | omega | (simp at *; omega)), Bool.and_false]; done) | (simp_all [inB]; done) | (simp_all [inB]; intros; omega)
        ·
          refine ct_skip ?_
          refine at_then ?_
          refine ct_seq ?_
          refine ct_seq ?_
          refine ct_reg ?_
          refine rl_val gw_none (ov_field fo24_1 rfl) rfl ?_
          first | refine rl_val gw_none (ov_load 0 sc22 rfl rfl rfl) rfl ?_ | refine rl_val gw_none (ov_load 0 sc22 rfl rfl (by assumption)) rfl ?_
          refine rl_val gw_none (ov_len Try.underlying22 rfl) rfl ?_
          refine rl_val gw_none (ov_move rfl) rfl ?_
          refine rl_nil ?_
          refine at_then ?_
          refine ct_block ?_
          refine ct_loopR (ι := Nat) (fun k => [(30, .int .i64 k)]) [(1, _), (28, _), (29, _)] (fun _ => _) (fun k => k ≤ xs.length ∧ ∀ j, j < k → studentStep xs j = true) (fun k => xs.length - k) (0) (Sub.cons rfl (Sub.cons rfl (Sub.cons rfl Sub.nil))) (fun _ hq => hq) (by (repeat' (first | exact Sub.nil | refine Sub.cons ?_ ?_)); all_goals (first | rfl | exact lkInt rfl (by omega))) ⟨Nat.zero_le _, fun j hj => absurd hj (Nat.not_lt_zero j)⟩ (fun k hi => ?_)
          obtain ⟨hk, hall⟩ := hi
          refine ct_seq ?_
          refine ct_reg ?_
          refine rl_val gw_none (ov_lss rfl rfl) rfl ?_
          refine rl_nil ?_
          refine at_then ?_
          refine ct_seq ?_
          first | refine ct_dec rfl (fun h2 => ?_) (fun h2 => ?_) | refine ct_ndec rfl (fun h2 => ?_) (fun h2 => ?_) | refine ct_eq rfl (fun h2 => ?_) (fun h2 => ?_) | refine ct_ne rfl (fun h2 => ?_) (fun h2 => ?_) | refine ct_not rfl (fun h2 => ?_) (fun h2 => ?_) | refine ct_cond rfl (fun h2 => ?_) (fun h2 => ?_)
          ·
            have hk2 : k < xs.length := by omega
            obtain ⟨b, o, rfl, hel⟩ := hsr.elem encStudent_len (by omega) hk2
            have hx := getLt hk2
            have hy := getLt (show k - 1 < xs.length by omega)
            have hst := studentStep_eq hx hy
            have hgood : studentStep xs k = true → (k + 1 ≤ xs.length ∧ ∀ j, j < k + 1 → studentStep xs j = true) := fun ht => ⟨hk2, fun j hj => by by_cases hjk : j = k; exact hjk ▸ ht; exact hall j (by omega)⟩
            generalize xs[k] = x at *
            generalize xs[k - 1] = y at *
            have hcx := hel k x hx
            obtain ⟨c0, c1, c2, c3, c4, _⟩ := hel k x hx
            obtain ⟨d0, d1, d2, d3, d4, _⟩ := hel (k - 1) y hy
            refine ct_skip ?_
            refine at_then ?_
            refine ct_seq ?_
            refine ct_block ?_
            refine ct_seq ?_
            refine ct_reg ?_
            refine rl_val gw_none (ov_move rfl) rfl ?_
            first | refine rl_val gw_none (ov_ix Try.underlying22 sz69 rfl rfl _ rfl (by omega)) rfl ?_ | refine rl_val gw_none (ov_ix Try.underlying22 sz69 rfl rfl (k - 1) (by omega) (by omega)) rfl ?_
            first | refine rl_val gw_none (ov_loadaw ag69 rfl rfl (by assumption)) rfl ?_ | refine rl_val gw_none (ov_loadall 0 ag69 rfl rfl rfl) rfl ?_ | refine rl_val gw_none (ov_loadall 1 ag69 rfl rfl rfl) rfl ?_ | refine rl_val gw_none (ov_loadall 2 ag69 rfl rfl rfl) rfl ?_ | refine rl_val gw_none (ov_loadall 3 ag69 rfl rfl rfl) rfl ?_
            refine rl_alloc ze69 rfl (fun N2 => ?_)
            refine rl_val gw_none (ov_assign rfl) rfl ?_
            refine rl_store [] sz69 rfl rfl rfl rfl rfl (Nat.le_of_ble_eq_true rfl) ?_
            refine rl_nil ?_
            refine at_then ?_
            refine ct_seq ?_
            refine ct_seq ?_
            refine ct_reg ?_
            refine rl_val gw_none (ov_field fo69_0 rfl) rfl ?_
            first | refine rl_val gw_none (ov_load 0 sc3 rfl rfl rfl) rfl ?_ | refine rl_val gw_none (ov_load 0 sc3 rfl rfl (by assumption)) rfl ?_
            refine rl_callv gw_none goes60 rfl (fun w1 hp => within_c _ _ _ _) rfl ?_
            refine rl_val gw_none (ov_not rfl) rfl ?_
            refine rl_val gw_none (ov_move rfl) rfl ?_
            refine rl_split (t := 39) rfl (fun g4 => ?_) (fun g4 => ?_)
            ·
              have g4' := g4
              try simp only [Bool.not_eq_true', Bool.not_eq_false', Bool.not_not, decide_eq_true_eq, decide_eq_false_iff_not, beq_iff_eq, beq_eq_false_iff_ne, bne_iff_ne, bne_eq_false_iff_eq, Bool.and_eq_true, Bool.or_eq_true, Bool.and_eq_false_iff, Bool.or_eq_false_iff, inB] at g4'
              refine rl_skip (gw_not rfl rfl g4) rfl ?_
              refine rl_skip (gw_not rfl rfl g4) rfl ?_
              refine rl_skip (gw_not rfl rfl g4) rfl ?_
              refine rl_skip (gw_not rfl rfl g4) rfl ?_
              refine rl_val gw_none (ov_pick_t rfl g4 rfl) rfl ?_
              refine rl_val gw_none (ov_move rfl) rfl ?_
              refine rl_skip (gw_not rfl rfl rfl) rfl ?_
              refine rl_skip (gw_not rfl rfl rfl) rfl ?_
              refine rl_skip (gw_not rfl rfl rfl) rfl ?_
              refine rl_skip (gw_not rfl rfl rfl) rfl ?_
              refine rl_val gw_none (ov_pick_t rfl rfl rfl) rfl ?_
              refine rl_val gw_none (ov_move rfl) rfl ?_
              refine rl_skip (gw_not rfl rfl rfl) rfl ?_
              refine rl_skip (gw_not rfl rfl rfl) rfl ?_
              refine rl_skip (gw_not rfl rfl rfl) rfl ?_
              refine rl_skip (gw_not rfl rfl rfl) rfl ?_
              refine rl_val gw_none (ov_pick_t rfl rfl rfl) rfl ?_
              refine rl_val gw_none (ov_move rfl) rfl ?_
              refine rl_skip (gw_not rfl rfl rfl) rfl ?_
              refine rl_skip (gw_not rfl rfl rfl) rfl ?_
              refine rl_skip (gw_not rfl rfl rfl) rfl ?_
              refine rl_skip (gw_not rfl rfl rfl) rfl ?_
              refine rl_val gw_none (ov_pick_t rfl rfl rfl) rfl ?_
              refine rl_nil ?_
              refine at_then ?_
              refine ct_true rfl rfl ?_
              refine ct_seq ?_
              refine ct_reg ?_
              refine rl_val gw_none (ov_assign rfl) rfl ?_
              refine rl_nil ?_
              refine at_then ?_
              refine ct_ret ?_
              refine at_then_ret ?_
              refine at_block_ret ?_
              refine at_then_ret ?_
              refine at_then_ret ?_
              refine at_block_ret ?_
              refine at_then_ret ?_
              refine at_ret1 Try.results23 (ro_tmp rfl) (fun w1 hp => ?_)
              refine ⟨?_, hp.ext0⟩
              unfold schoolB
              first | (rw [listB_false hk2 (by rw [hst]; simp_all [studentB, inB]; try omega), Bool.and_false]; done) | (rw [listB_end hall]; first | (simp_all [inB]; done) | (simp_all [inB]; omega)) | (rw [listB_long (by first | omega | (simp at *; omega)), Bool.and_false]; done) | (simp_all [inB]; done) | (simp_all [inB]; intros; omega)
            ·
              have g4' := g4
              try simp only [Bool.not_eq_true', Bool.not_eq_false', Bool.not_not, decide_eq_true_eq, decide_eq_false_iff_not, beq_iff_eq, beq_eq_false_iff_ne, bne_iff_ne, bne_eq_false_iff_eq, Bool.and_eq_true, Bool.or_eq_true, Bool.and_eq_false_iff, Bool.or_eq_false_iff, inB] at g4'
              refine rl_val (gw_some rfl rfl g4) (ov_field fo69_1 rfl) rfl ?_
              first | refine rl_val (gw_some rfl rfl g4) (ov_load 0 sc3 rfl rfl rfl) rfl ?_ | refine rl_val (gw_some rfl rfl g4) (ov_load 0 sc3 rfl rfl (by assumption)) rfl ?_
              refine rl_callv (gw_some rfl rfl g4) goes60 rfl (fun w1 hp => within_c _ _ _ _) rfl ?_
              refine rl_val (gw_some rfl rfl g4) (ov_not rfl) rfl ?_
              refine rl_val gw_none (ov_pick_f rfl g4 rfl) rfl ?_
              refine rl_val gw_none (ov_move rfl) rfl ?_
              refine rl_split (t := 45) rfl (fun g5 => ?_) (fun g5 => ?_)
              ·
                have g5' := g5
                try simp only [Bool.not_eq_true', Bool.not_eq_false', Bool.not_not, decide_eq_true_eq, decide_eq_false_iff_not, beq_iff_eq, beq_eq_false_iff_ne, bne_iff_ne, bne_eq_false_iff_eq, Bool.and_eq_true, Bool.or_eq_true, Bool.and_eq_false_iff, Bool.or_eq_false_iff, inB] at g5'
                refine rl_skip (gw_not rfl rfl g5) rfl ?_
                refine rl_skip (gw_not rfl rfl g5) rfl ?_
                refine rl_skip (gw_not rfl rfl g5) rfl ?_
                refine rl_skip (gw_not rfl rfl g5) rfl ?_
                refine rl_val gw_none (ov_pick_t rfl g5 rfl) rfl ?_
                refine rl_val gw_none (ov_move rfl) rfl ?_
                refine rl_skip (gw_not rfl rfl rfl) rfl ?_
                refine rl_skip (gw_not rfl rfl rfl) rfl ?_
                refine rl_skip (gw_not rfl rfl rfl) rfl ?_
                refine rl_skip (gw_not rfl rfl rfl) rfl ?_
                refine rl_val gw_none (ov_pick_t rfl rfl rfl) rfl ?_
                refine rl_val gw_none (ov_move rfl) rfl ?_
                refine rl_skip (gw_not rfl rfl rfl) rfl ?_
                refine rl_skip (gw_not rfl rfl rfl) rfl ?_
                refine rl_skip (gw_not rfl rfl rfl) rfl ?_
                refine rl_skip (gw_not rfl rfl rfl) rfl ?_
                refine rl_val gw_none (ov_pick_t rfl rfl rfl) rfl ?_
                refine rl_nil ?_
                refine at_then ?_
                refine ct_true rfl rfl ?_
                refine ct_seq ?_
                refine ct_reg ?_
                refine rl_val gw_none (ov_assign rfl) rfl ?_
                refine rl_nil ?_
                refine at_then ?_
                refine ct_ret ?_
                refine at_then_ret ?_
                refine at_block_ret ?_
                refine at_then_ret ?_
                refine at_then_ret ?_
                refine at_block_ret ?_
                refine at_then_ret ?_
                refine at_ret1 Try.results23 (ro_tmp rfl) (fun w1 hp => ?_)
                refine ⟨?_, hp.ext0⟩
                unfold schoolB
                first | (rw [listB_false hk2 (by rw [hst]; simp_all [studentB, inB]; try omega), Bool.and_false]; done) | (rw [listB_end hall]; first | (simp_all [inB]; done) | (simp_all [inB]; omega)) | (rw [listB_long (by first | omega | (simp at *; omega)), Bool.and_false]; done) | (simp_all [inB]; done) | (simp_all [inB]; intros; omega)
              ·
                have g5' := g5
                try simp only [Bool.not_eq_true', Bool.not_eq_false', Bool.not_not, decide_eq_true_eq, decide_eq_false_iff_not, beq_iff_eq, beq_eq_false_iff_ne, bne_iff_ne, bne_eq_false_iff_eq, Bool.and_eq_true, Bool.or_eq_true, Bool.and_eq_false_iff, Bool.or_eq_false_iff, inB] at g5'
                refine rl_val (gw_some rfl rfl g5) (ov_field fo69_2 rfl) rfl ?_
                first | refine rl_val (gw_some rfl rfl g5) (ov_load 0 sc3 rfl rfl rfl) rfl ?_ | refine rl_val (gw_some rfl rfl g5) (ov_load 0 sc3 rfl rfl (by assumption)) rfl ?_
                refine rl_callv (gw_some rfl rfl g5) goes60 rfl (fun w1 hp => within_c _ _ _ _) rfl ?_
                refine rl_val (gw_some rfl rfl g5) (ov_not rfl) rfl ?_
                refine rl_val gw_none (ov_pick_f rfl g5 rfl) rfl ?_
                refine rl_val gw_none (ov_move rfl) rfl ?_
                refine rl_split (t := 51) rfl (fun g6 => ?_) (fun g6 => ?_)
                ·
                  have g6' := g6
                  try simp only [Bool.not_eq_true', Bool.not_eq_false', Bool.not_not, decide_eq_true_eq, decide_eq_false_iff_not, beq_iff_eq, beq_eq_false_iff_ne, bne_iff_ne, bne_eq_false_iff_eq, Bool.and_eq_true, Bool.or_eq_true, Bool.and_eq_false_iff, Bool.or_eq_false_iff, inB] at g6'
                  refine rl_skip (gw_not rfl rfl g6) rfl ?_
                  refine rl_skip (gw_not rfl rfl g6) rfl ?_
                  refine rl_skip (gw_not rfl rfl g6) rfl ?_
                  refine rl_skip (gw_not rfl rfl g6) rfl ?_
                  refine rl_val gw_none (ov_pick_t rfl g6 rfl) rfl ?_
                  refine rl_val gw_none (ov_move rfl) rfl ?_
                  refine rl_skip (gw_not rfl rfl rfl) rfl ?_
                  refine rl_skip (gw_not rfl rfl rfl) rfl ?_
                  refine rl_skip (gw_not rfl rfl rfl) rfl ?_
                  refine rl_skip (gw_not rfl rfl rfl) rfl ?_
                  refine rl_val gw_none (ov_pick_t rfl rfl rfl) rfl ?_
                  refine rl_nil ?_
                  refine at_then ?_
                  refine ct_true rfl rfl ?_
                  refine ct_seq ?_
                  refine ct_reg ?_
                  refine rl_val gw_none (ov_assign rfl) rfl ?_
                  refine rl_nil ?_
                  refine at_then ?_
                  refine ct_ret ?_
                  refine at_then_ret ?_
                  refine at_block_ret ?_
                  refine at_then_ret ?_
                  refine at_then_ret ?_
                  refine at_block_ret ?_
                  refine at_then_ret ?_
                  refine at_ret1 Try.results23 (ro_tmp rfl) (fun w1 hp => ?_)
                  refine ⟨?_, hp.ext0⟩
                  unfold schoolB
                  first | (rw [listB_false hk2 (by rw [hst]; simp_all [studentB, inB]; try omega), Bool.and_false]; done) | (rw [listB_end hall]; first | (simp_all [inB]; done) | (simp_all [inB]; omega)) | (rw [listB_long (by first | omega | (simp at *; omega)), Bool.and_false]; done) | (simp_all [inB]; done) | (simp_all [inB]; intros; omega)
                ·
                  have g6' := g6
                  try simp only [Bool.not_eq_true', Bool.not_eq_false', Bool.not_not, decide_eq_true_eq, decide_eq_false_iff_not, beq_iff_eq, beq_eq_false_iff_ne, bne_iff_ne, bne_eq_false_iff_eq, Bool.and_eq_true, Bool.or_eq_true, Bool.and_eq_false_iff, Bool.or_eq_false_iff, inB] at g6'
                  refine rl_val (gw_some rfl rfl g6) (ov_field fo69_3 rfl) rfl ?_
                  first | refine rl_val (gw_some rfl rfl g6) (ov_load 0 sc3 rfl rfl rfl) rfl ?_ | refine rl_val (gw_some rfl rfl g6) (ov_load 0 sc3 rfl rfl (by assumption)) rfl ?_
                  refine rl_callv (gw_some rfl rfl g6) goes60 rfl (fun w1 hp => within_c _ _ _ _) rfl ?_
                  refine rl_val (gw_some rfl rfl g6) (ov_not rfl) rfl ?_
                  refine rl_val gw_none (ov_pick_f rfl g6 rfl) rfl ?_
                  refine rl_val gw_none (ov_move rfl) rfl ?_
                  refine rl_split (t := 57) rfl (fun g7 => ?_) (fun g7 => ?_)
                  ·
                    have g7' := g7
                    try simp only [Bool.not_eq_true', Bool.not_eq_false', Bool.not_not, decide_eq_true_eq, decide_eq_false_iff_not, beq_iff_eq, beq_eq_false_iff_ne, bne_iff_ne, bne_eq_false_iff_eq, Bool.and_eq_true, Bool.or_eq_true, Bool.and_eq_false_iff, Bool.or_eq_false_iff, inB] at g7'
                    refine rl_skip (gw_not rfl rfl g7) rfl ?_
                    refine rl_skip (gw_not rfl rfl g7) rfl ?_
                    refine rl_skip (gw_not rfl rfl g7) rfl ?_
                    refine rl_skip (gw_not rfl rfl g7) rfl ?_
                    refine rl_val gw_none (ov_pick_t rfl g7 rfl) rfl ?_
                    refine rl_nil ?_
                    refine at_then ?_
                    refine ct_true rfl rfl ?_
                    refine ct_seq ?_
                    refine ct_reg ?_
                    refine rl_val gw_none (ov_assign rfl) rfl ?_
                    refine rl_nil ?_
                    refine at_then ?_
                    refine ct_ret ?_
                    refine at_then_ret ?_
                    refine at_block_ret ?_
                    refine at_then_ret ?_
                    refine at_then_ret ?_
                    refine at_block_ret ?_
                    refine at_then_ret ?_
                    refine at_ret1 Try.results23 (ro_tmp rfl) (fun w1 hp => ?_)
                    refine ⟨?_, hp.ext0⟩
                    unfold schoolB
                    first | (rw [listB_false hk2 (by rw [hst]; simp_all [studentB, inB]; try omega), Bool.and_false]; done) | (rw [listB_end hall]; first | (simp_all [inB]; done) | (simp_all [inB]; omega)) | (rw [listB_long (by first | omega | (simp at *; omega)), Bool.and_false]; done) | (simp_all [inB]; done) | (simp_all [inB]; intros; omega)
                  ·
                    have g7' := g7
                    try simp only [Bool.not_eq_true', Bool.not_eq_false', Bool.not_not, decide_eq_true_eq, decide_eq_false_iff_not, beq_iff_eq, beq_eq_false_iff_ne, bne_iff_ne, bne_eq_false_iff_eq, Bool.and_eq_true, Bool.or_eq_true, Bool.and_eq_false_iff, Bool.or_eq_false_iff, inB] at g7'
                    refine rl_val (gw_some rfl rfl g7) (ov_field fo69_4 rfl) rfl ?_
                    first | refine rl_val (gw_some rfl rfl g7) (ov_load 0 sc3 rfl rfl rfl) rfl ?_ | refine rl_val (gw_some rfl rfl g7) (ov_load 0 sc3 rfl rfl (by assumption)) rfl ?_
                    refine rl_callv (gw_some rfl rfl g7) goes60 rfl (fun w1 hp => within_c _ _ _ _) rfl ?_
                    refine rl_val (gw_some rfl rfl g7) (ov_not rfl) rfl ?_
                    refine rl_val gw_none (ov_pick_f rfl g7 rfl) rfl ?_
                    refine rl_nil ?_
                    refine at_then ?_
                    first | refine ct_dec rfl (fun h3 => ?_) (fun h3 => ?_) | refine ct_ndec rfl (fun h3 => ?_) (fun h3 => ?_) | refine ct_eq rfl (fun h3 => ?_) (fun h3 => ?_) | refine ct_ne rfl (fun h3 => ?_) (fun h3 => ?_) | refine ct_not rfl (fun h3 => ?_) (fun h3 => ?_) | refine ct_cond rfl (fun h3 => ?_) (fun h3 => ?_)
                    ·
                      refine ct_seq ?_
                      refine ct_reg ?_
                      refine rl_val gw_none (ov_assign rfl) rfl ?_
                      refine rl_nil ?_
                      refine at_then ?_
                      refine ct_ret ?_
                      refine at_then_ret ?_
                      refine at_block_ret ?_
                      refine at_then_ret ?_
                      refine at_then_ret ?_
                      refine at_block_ret ?_
                      refine at_then_ret ?_
                      refine at_ret1 Try.results23 (ro_tmp rfl) (fun w1 hp => ?_)
                      refine ⟨?_, hp.ext0⟩
                      unfold schoolB
                      first | (rw [listB_false hk2 (by rw [hst]; simp_all [studentB, inB]; try omega), Bool.and_false]; done) | (rw [listB_end hall]; first | (simp_all [inB]; done) | (simp_all [inB]; omega)) | (rw [listB_long (by first | omega | (simp at *; omega)), Bool.and_false]; done) | (simp_all [inB]; done) | (simp_all [inB]; intros; omega)
                    ·
                      refine ct_skip ?_
                      refine at_then ?_
                      refine ct_seq ?_
                      refine ct_dr 14 (by kernel_rfl) (by kernel_rfl) ?_
                      refine ql_val gw_none (ov_move rfl) rfl ?_
                      refine ql_val gw_none (ov_gtr rfl rfl) rfl ?_
                      refine ql_val gw_none (ov_move rfl) rfl ?_
                      refine ql_split (t := 65) rfl (fun g8 => ?_) (fun g8 => ?_)
                      ·
                        have g8' := g8
                        try simp only [Bool.not_eq_true', Bool.not_eq_false', Bool.not_not, decide_eq_true_eq, decide_eq_false_iff_not, beq_iff_eq, beq_eq_false_iff_ne, bne_iff_ne, bne_eq_false_iff_eq, Bool.and_eq_true, Bool.or_eq_true, Bool.and_eq_false_iff, Bool.or_eq_false_iff, inB] at g8'
                        refine ql_val (gw_some rfl rfl g8) (ov_field fo24_1 rfl) rfl ?_
                        first | refine ql_val (gw_some rfl rfl g8) (ov_load 1 sc22 rfl rfl rfl) rfl ?_ | refine ql_val (gw_some rfl rfl g8) (ov_load 1 sc22 rfl rfl (by assumption)) rfl ?_
                        refine ql_val (gw_some rfl rfl g8) (ov_move rfl) rfl ?_
                        refine ql_val (gw_some rfl rfl g8) (ov_sub rfl rfl (by omega)) rfl ?_
                        first | refine ql_val (gw_some rfl rfl g8) (ov_ix Try.underlying22 sz69 rfl rfl _ rfl (by omega)) rfl ?_ | refine ql_val (gw_some rfl rfl g8) (ov_ix Try.underlying22 sz69 rfl rfl (k - 1) (by omega) (by omega)) rfl ?_
                        refine ql_val (gw_some rfl rfl g8) (ov_field fo69_0 rfl) rfl ?_
                        first | refine ql_val (gw_some rfl rfl g8) (ov_load 0 sc3 rfl rfl rfl) rfl ?_ | refine ql_val (gw_some rfl rfl g8) (ov_load 1 sc3 rfl rfl rfl) rfl ?_ | refine ql_val (gw_some rfl rfl g8) (ov_load 2 sc3 rfl rfl rfl) rfl ?_ | refine ql_val (gw_some rfl rfl g8) (ov_load 3 sc3 rfl rfl rfl) rfl ?_ | refine ql_val (gw_some rfl rfl g8) (ov_loadw sc3 rfl (by assumption)) rfl ?_ | refine ql_val (gw_some rfl rfl g8) (ov_load 0 sc3 rfl rfl (by assumption)) rfl ?_ | refine ql_val (gw_some rfl rfl g8) (ov_load 1 sc3 rfl rfl (by assumption)) rfl ?_ | refine ql_val (gw_some rfl rfl g8) (ov_load 2 sc3 rfl rfl (by assumption)) rfl ?_ | refine ql_val (gw_some rfl rfl g8) (ov_load 3 sc3 rfl rfl (by assumption)) rfl ?_
                        refine ql_val (gw_some rfl rfl g8) (ov_field fo69_0 rfl) rfl ?_
                        first | refine ql_val (gw_some rfl rfl g8) (ov_load 0 sc3 rfl rfl rfl) rfl ?_ | refine ql_val (gw_some rfl rfl g8) (ov_load 0 sc3 rfl rfl (by assumption)) rfl ?_
                        refine ql_val (gw_some rfl rfl g8) (ov_geq rfl rfl) rfl ?_
                        refine ql_val gw_none (ov_pick_t rfl g8 rfl) rfl ?_
                        refine ql_nil ?_
                        refine rl_nil ?_
                        refine at_then ?_
                        first | refine ct_dec rfl (fun h4 => ?_) (fun h4 => ?_) | refine ct_ndec rfl (fun h4 => ?_) (fun h4 => ?_) | refine ct_eq rfl (fun h4 => ?_) (fun h4 => ?_) | refine ct_ne rfl (fun h4 => ?_) (fun h4 => ?_) | refine ct_not rfl (fun h4 => ?_) (fun h4 => ?_) | refine ct_cond rfl (fun h4 => ?_) (fun h4 => ?_)
                        ·
                          refine ct_seq ?_
                          refine ct_reg ?_
                          refine rl_val gw_none (ov_assign rfl) rfl ?_
                          refine rl_nil ?_
                          refine at_then ?_
                          refine ct_ret ?_
                          refine at_block_ret ?_
                          refine at_then_ret ?_
                          refine at_then_ret ?_
                          refine at_block_ret ?_
                          refine at_then_ret ?_
                          refine at_ret1 Try.results23 (ro_tmp rfl) (fun w1 hp => ?_)
                          refine ⟨?_, hp.ext0⟩
                          unfold schoolB
                          first | (rw [listB_false hk2 (by rw [hst]; simp_all [studentB, inB]; try omega), Bool.and_false]; done) | (rw [listB_end hall]; first | (simp_all [inB]; done) | (simp_all [inB]; omega)) | (rw [listB_long (by first | omega | (simp at *; omega)), Bool.and_false]; done) | (simp_all [inB]; done) | (simp_all [inB]; intros; omega)
                        ·
                          refine ct_skip ?_
                          refine at_block ?_
                          refine at_then ?_
                          refine ct_reg ?_
                          refine rl_val gw_none (ov_add rfl rfl (by omega)) rfl ?_
                          refine rl_val gw_none (ov_move rfl) rfl ?_
                          refine rl_nil ?_
                          have hstT : studentStep xs k = true := by rw [hst]; simp_all [studentB, inB]; try omega
                          exact at_backR (k + 1) (hgood hstT) (by first | exact True.intro | omega | (dsimp only; omega) | (dsimp only at *; omega)) (by (repeat' (first | exact Sub.nil | refine Sub.cons ?_ ?_)); all_goals (first | rfl | exact lkInt rfl (by omega))) (Sub.cons rfl (Sub.cons rfl (Sub.cons rfl Sub.nil))) (fun _ hq => hq.drop)
                      ·
                        have g8' := g8
                        try simp only [Bool.not_eq_true', Bool.not_eq_false', Bool.not_not, decide_eq_true_eq, decide_eq_false_iff_not, beq_iff_eq, beq_eq_false_iff_ne, bne_iff_ne, bne_eq_false_iff_eq, Bool.and_eq_true, Bool.or_eq_true, Bool.and_eq_false_iff, Bool.or_eq_false_iff, inB] at g8'
                        refine ql_skip (gw_not rfl rfl g8) rfl ?_
                        refine ql_skip (gw_not rfl rfl g8) rfl ?_
                        refine ql_skip (gw_not rfl rfl g8) rfl ?_
                        refine ql_skip (gw_not rfl rfl g8) rfl ?_
                        refine ql_skip (gw_not rfl rfl g8) rfl ?_
                        refine ql_skip (gw_not rfl rfl g8) rfl ?_
                        refine ql_skip (gw_not rfl rfl g8) rfl ?_
                        refine ql_skip (gw_not rfl rfl g8) rfl ?_
                        refine ql_skip (gw_not rfl rfl g8) rfl ?_
                        refine ql_skip (gw_not rfl rfl g8) rfl ?_
                        refine ql_val gw_none (ov_pick_f rfl g8 rfl) rfl ?_
                        refine ql_nil ?_
                        refine rl_nil ?_
                        refine at_then ?_
                        refine ct_false rfl rfl ?_
                        refine ct_skip ?_
                        refine at_block ?_
                        refine at_then ?_
                        refine ct_reg ?_
                        refine rl_val gw_none (ov_add rfl rfl (by omega)) rfl ?_
                        refine rl_val gw_none (ov_move rfl) rfl ?_
                        refine rl_nil ?_
                        have hstT : studentStep xs k = true := by rw [hst]; simp_all [studentB, inB]; try omega
                        exact at_backR (k + 1) (hgood hstT) (by first | exact True.intro | omega | (dsimp only; omega) | (dsimp only at *; omega)) (by (repeat' (first | exact Sub.nil | refine Sub.cons ?_ ?_)); all_goals (first | rfl | exact lkInt rfl (by omega))) (Sub.cons rfl (Sub.cons rfl (Sub.cons rfl Sub.nil))) (fun _ hq => hq.drop)
          ·
            have hke : k = xs.length := by omega
            subst hke
            refine ct_exit ?_
            refine at_then_exit ?_
            refine at_then_exit ?_
            refine at_block_hit ?_
            refine at_then ?_
            refine ct_seq ?_
            refine ct_reg ?_
            refine rl_val gw_none (ov_assign rfl) rfl ?_
            refine rl_nil ?_
            refine at_then ?_
            refine ct_ret ?_
            refine at_ret1 Try.results23 (ro_tmp rfl) (fun w1 hp => ?_)
            refine ⟨?_, hp.ext0⟩
            unfold schoolB
            first | (rw [listB_false hk2 (by rw [hst]; simp_all [studentB, inB]; try omega), Bool.and_false]; done) | (rw [listB_end hall]; first | (simp_all [inB]; done) | (simp_all [inB]; omega)) | (rw [listB_long (by first | omega | (simp at *; omega)), Bool.and_false]; done) | (simp_all [inB]; done) | (simp_all [inB]; intros; omega)

theorem l25Good_c (d : Int) (xs : List Student) (pa : Int) (le : Int) (vxs : Value) (w : World) (zd : In64 d) (hGxs : ∀ y ∈ xs, GStudent y) (hsr : SR w 5 vxs xs.length (flat encStudent xs)) (zpa : In64 pa) (zle : In64 le) : Calls Try.prog 57 ([.agg (List.toArray (α := Value) [.int .i64 d, vxs, .int .i64 pa, .int .i64 le])]).toArray w (fun e w' => e = .returned (.bool (schoolB d xs pa le)) ∧ Ext w w') := by
  obtain ⟨a, cap, rfl, hcap, hmax⟩ := hsr.slice
  have hlen := hsr.len_le
  refine calls_ct Try.func57 Try.ntmps57 rfl rfl ?_
  refine ct_seq ?_
  refine ct_reg ?_
  refine rl_box rfl rfl (fun N1 => ?_)
  refine rl_val gw_none (ov_assign rfl) rfl ?_
  refine rl_nil ?_
  refine at_then ?_
  refine ct_seq ?_
  refine ct_seq ?_
  refine ct_reg ?_
  refine rl_val gw_none (ov_field fo24_0 rfl) rfl ?_
  first | refine rl_val gw_none (ov_load 0 sc3 rfl rfl rfl) rfl ?_ | refine rl_val gw_none (ov_load 0 sc3 rfl rfl (by assumption)) rfl ?_
  refine rl_callv gw_none goes51 rfl (fun w1 hp => l2Day_c _ _) rfl ?_
  refine rl_val gw_none (ov_not rfl) rfl ?_
  refine rl_val gw_none (ov_move rfl) rfl ?_
  refine rl_split (t := 9) rfl (fun g1 => ?_) (fun g1 => ?_)
  ·
    have g1' := g1
    try simp only [Bool.not_eq_true', Bool.not_eq_false', Bool.not_not, decide_eq_true_eq, decide_eq_false_iff_not, beq_iff_eq, beq_eq_false_iff_ne, bne_iff_ne, bne_eq_false_iff_eq, Bool.and_eq_true, Bool.or_eq_true, Bool.and_eq_false_iff, Bool.or_eq_false_iff, inB] at g1'
    refine rl_skip (gw_not rfl rfl g1) rfl ?_
    refine rl_skip (gw_not rfl rfl g1) rfl ?_
    refine rl_skip (gw_not rfl rfl g1) rfl ?_
    refine rl_skip (gw_not rfl rfl g1) rfl ?_
    refine rl_val gw_none (ov_pick_t rfl g1 rfl) rfl ?_
    refine rl_val gw_none (ov_move rfl) rfl ?_
    refine rl_skip (gw_not rfl rfl rfl) rfl ?_
    refine rl_skip (gw_not rfl rfl rfl) rfl ?_
    refine rl_skip (gw_not rfl rfl rfl) rfl ?_
    refine rl_skip (gw_not rfl rfl rfl) rfl ?_
    refine rl_val gw_none (ov_pick_t rfl rfl rfl) rfl ?_
    refine rl_val gw_none (ov_move rfl) rfl ?_
    refine rl_skip (gw_not rfl rfl rfl) rfl ?_
    refine rl_skip (gw_not rfl rfl rfl) rfl ?_
    refine rl_skip (gw_not rfl rfl rfl) rfl ?_
    refine rl_skip (gw_not rfl rfl rfl) rfl ?_
    refine rl_val gw_none (ov_pick_t rfl rfl rfl) rfl ?_
    refine rl_nil ?_
    refine at_then ?_
    refine ct_true rfl rfl ?_
    refine ct_seq ?_
    refine ct_reg ?_
    refine rl_val gw_none (ov_assign rfl) rfl ?_
    refine rl_nil ?_
    refine at_then ?_
    refine ct_ret ?_
    refine at_then_ret ?_
    refine at_ret1 Try.results57 (ro_tmp rfl) (fun w1 hp => ?_)
    refine ⟨?_, hp.ext0⟩
    unfold schoolB
    first | (rw [listB_false hk2 (by rw [hst]; simp_all [studentB, inB]; try omega), Bool.and_false]; done) | (rw [listB_end hall]; first | (simp_all [inB]; done) | (simp_all [inB]; omega)) | (rw [listB_long (by first | omega | (simp at *; omega)), Bool.and_false]; done) | (simp_all [inB]; done) | (simp_all [inB]; intros; omega)
  ·
    have g1' := g1
    try simp only [Bool.not_eq_true', Bool.not_eq_false', Bool.not_not, decide_eq_true_eq, decide_eq_false_iff_not, beq_iff_eq, beq_eq_false_iff_ne, bne_iff_ne, bne_eq_false_iff_eq, Bool.and_eq_true, Bool.or_eq_true, Bool.and_eq_false_iff, Bool.or_eq_false_iff, inB] at g1'
    refine rl_val (gw_some rfl rfl g1) (ov_field fo24_1 rfl) rfl ?_
    first | refine rl_val (gw_some rfl rfl g1) (ov_load 0 sc22 rfl rfl rfl) rfl ?_ | refine rl_val (gw_some rfl rfl g1) (ov_load 0 sc22 rfl rfl (by assumption)) rfl ?_
    refine rl_val (gw_some rfl rfl g1) (ov_len Try.underlying22 rfl) rfl ?_
    refine rl_val (gw_some rfl rfl g1) (ov_gtr rfl rfl) rfl ?_
    refine rl_val gw_none (ov_pick_f rfl g1 rfl) rfl ?_
    refine rl_val gw_none (ov_move rfl) rfl ?_
    refine rl_split (t := 15) rfl (fun g2 => ?_) (fun g2 => ?_)
    ·
      have g2' := g2
      try simp only [Bool.not_eq_true', Bool.not_eq_false', Bool.not_not, decide_eq_true_eq, decide_eq_false_iff_not, beq_iff_eq, beq_eq_false_iff_ne, bne_iff_ne, bne_eq_false_iff_eq, Bool.and_eq_true, Bool.or_eq_true, Bool.and_eq_false_iff, Bool.or_eq_false_iff, inB] at g2'
      refine rl_skip (gw_not rfl rfl g2) rfl ?_
      refine rl_skip (gw_not rfl rfl g2) rfl ?_
      refine rl_skip (gw_not rfl rfl g2) rfl ?_
      refine rl_skip (gw_not rfl rfl g2) rfl ?_
      refine rl_val gw_none (ov_pick_t rfl g2 rfl) rfl ?_
      refine rl_val gw_none (ov_move rfl) rfl ?_
      refine rl_skip (gw_not rfl rfl rfl) rfl ?_
      refine rl_skip (gw_not rfl rfl rfl) rfl ?_
      refine rl_skip (gw_not rfl rfl rfl) rfl ?_
      refine rl_skip (gw_not rfl rfl rfl) rfl ?_
      refine rl_val gw_none (ov_pick_t rfl rfl rfl) rfl ?_
      refine rl_nil ?_
      refine at_then ?_
      refine ct_true rfl rfl ?_
      refine ct_seq ?_
      refine ct_reg ?_
      refine rl_val gw_none (ov_assign rfl) rfl ?_
      refine rl_nil ?_
      refine at_then ?_
      refine ct_ret ?_
      refine at_then_ret ?_
      refine at_ret1 Try.results57 (ro_tmp rfl) (fun w1 hp => ?_)
      refine ⟨?_, hp.ext0⟩
      unfold schoolB
      first | (rw [listB_false hk2 (by rw [hst]; simp_all [studentB, inB]; try omega), Bool.and_false]; done) | (rw [listB_end hall]; first | (simp_all [inB]; done) | (simp_all [inB]; omega)) | (rw [listB_long (by first | omega | (simp at *; omega)), Bool.and_false]; done) | (simp_all [inB]; done) | (simp_all [inB]; intros; omega)
    ·
      have g2' := g2
      try simp only [Bool.not_eq_true', Bool.not_eq_false', Bool.not_not, decide_eq_true_eq, decide_eq_false_iff_not, beq_iff_eq, beq_eq_false_iff_ne, bne_iff_ne, bne_eq_false_iff_eq, Bool.and_eq_true, Bool.or_eq_true, Bool.and_eq_false_iff, Bool.or_eq_false_iff, inB] at g2'
      refine rl_val (gw_some rfl rfl g2) (ov_field fo24_2 rfl) rfl ?_
      first | refine rl_val (gw_some rfl rfl g2) (ov_load 0 sc3 rfl rfl rfl) rfl ?_ | refine rl_val (gw_some rfl rfl g2) (ov_load 0 sc3 rfl rfl (by assumption)) rfl ?_
      refine rl_callv (gw_some rfl rfl g2) goes81 rfl (fun w1 hp => l1In_c _ _ _ _) rfl ?_
      refine rl_val (gw_some rfl rfl g2) (ov_not rfl) rfl ?_
      refine rl_val gw_none (ov_pick_f rfl g2 rfl) rfl ?_
      refine rl_val gw_none (ov_move rfl) rfl ?_
      refine rl_split (t := 21) rfl (fun g3 => ?_) (fun g3 => ?_)
      ·
        have g3' := g3
        try simp only [Bool.not_eq_true', Bool.not_eq_false', Bool.not_not, decide_eq_true_eq, decide_eq_false_iff_not, beq_iff_eq, beq_eq_false_iff_ne, bne_iff_ne, bne_eq_false_iff_eq, Bool.and_eq_true, Bool.or_eq_true, Bool.and_eq_false_iff, Bool.or_eq_false_iff, inB] at g3'
        refine rl_skip (gw_not rfl rfl g3) rfl ?_
        refine rl_skip (gw_not rfl rfl g3) rfl ?_
        refine rl_skip (gw_not rfl rfl g3) rfl ?_
        refine rl_skip (gw_not rfl rfl g3) rfl ?_
        refine rl_val gw_none (ov_pick_t rfl g3 rfl) rfl ?_
        refine rl_nil ?_
        refine at_then ?_
        refine ct_true rfl rfl ?_
        refine ct_seq ?_
        refine ct_reg ?_
        refine rl_val gw_none (ov_assign rfl) rfl ?_
        refine rl_nil ?_
        refine at_then ?_
        refine ct_ret ?_
        refine at_then_ret ?_
        refine at_ret1 Try.results57 (ro_tmp rfl) (fun w1 hp => ?_)
        refine ⟨?_, hp.ext0⟩
        unfold schoolB
        first | (rw [listB_false hk2 (by rw [hst]; simp_all [studentB, inB]; try omega), Bool.and_false]; done) | (rw [listB_end hall]; first | (simp_all [inB]; done) | (simp_all [inB]; omega)) | (rw [listB_long (by first | omega | (simp at *; omega)), Bool.and_false]; done) | (simp_all [inB]; done) | (simp_all [inB]; intros; omega)
      ·
        have g3' := g3
        try simp only [Bool.not_eq_true', Bool.not_eq_false', Bool.not_not, decide_eq_true_eq, decide_eq_false_iff_not, beq_iff_eq, beq_eq_false_iff_ne, bne_iff_ne, bne_eq_false_iff_eq, Bool.and_eq_true, Bool.or_eq_true, Bool.and_eq_false_iff, Bool.or_eq_false_iff, inB] at g3'
        refine rl_val (gw_some rfl rfl g3) (ov_field fo24_3 rfl) rfl ?_
        first | refine rl_val (gw_some rfl rfl g3) (ov_load 0 sc3 rfl rfl rfl) rfl ?_ | refine rl_val (gw_some rfl rfl g3) (ov_load 0 sc3 rfl rfl (by assumption)) rfl ?_
        refine rl_callv (gw_some rfl rfl g3) goes81 rfl (fun w1 hp => l1In_c _ _ _ _) rfl ?_
        refine rl_val (gw_some rfl rfl g3) (ov_not rfl) rfl ?_
        refine rl_val gw_none (ov_pick_f rfl g3 rfl) rfl ?_
        refine rl_nil ?_
        refine at_then ?_
        first | refine ct_dec rfl (fun h1 => ?_) (fun h1 => ?_) | refine ct_ndec rfl (fun h1 => ?_) (fun h1 => ?_) | refine ct_eq rfl (fun h1 => ?_) (fun h1 => ?_) | refine ct_ne rfl (fun h1 => ?_) (fun h1 => ?_) | refine ct_not rfl (fun h1 => ?_) (fun h1 => ?_) | refine ct_cond rfl (fun h1 => ?_) (fun h1 => ?_)
        ·
          refine ct_seq ?_
          refine ct_reg ?_
          refine rl_val gw_none (ov_assign rfl) rfl ?_
          refine rl_nil ?_
          refine at_then ?_
          refine ct_ret ?_
          refine at_then_ret ?_
          refine at_ret1 Try.results57 (ro_tmp rfl) (fun w1 hp => ?_)
          refine ⟨?_, hp.ext0⟩
          unfold schoolB
          first | (rw [listB_false hk2 (by rw [hst]; simp_all [studentB, inB]; try omega), Bool.and_false]; done) | (rw [listB_end hall]; first | (simp_all [inB]; done) | (simp_all [inB]; omega)) | (rw [listB_long (by first | omega | (simp at *; omega)), Bool.and_false]; done) | (simp_all [inB]; done) | (simp_all [inB]; intros; omega)
        ·
          refine ct_skip ?_
          refine at_then ?_
          refine ct_seq ?_
          refine ct_seq ?_
          refine ct_reg ?_
          refine rl_val gw_none (ov_assign rfl) rfl ?_
          refine rl_nil ?_
          refine at_then ?_
          refine ct_block ?_
          refine ct_loopR (ι := Nat) (fun k => [(3, .int .i64 k)]) [(1, _)] (fun _ => _) (fun k => k ≤ xs.length ∧ ∀ j, j < k → studentStep xs j = true) (fun k => xs.length - k) (0) (Sub.cons rfl Sub.nil) (fun _ hq => hq) (by (repeat' (first | exact Sub.nil | refine Sub.cons ?_ ?_)); all_goals (first | rfl | exact lkInt rfl (by omega))) ⟨Nat.zero_le _, fun j hj => absurd hj (Nat.not_lt_zero j)⟩ (fun k hi => ?_)
          obtain ⟨hk, hall⟩ := hi
          refine ct_seq ?_
          refine ct_seq ?_
          refine ct_reg ?_
          refine rl_val gw_none (ov_move rfl) rfl ?_
          refine rl_val gw_none (ov_field fo24_1 rfl) rfl ?_
          first | refine rl_val gw_none (ov_load 0 sc22 rfl rfl rfl) rfl ?_ | refine rl_val gw_none (ov_load 0 sc22 rfl rfl (by assumption)) rfl ?_
          refine rl_val gw_none (ov_len Try.underlying22 rfl) rfl ?_
          refine rl_val gw_none (ov_lss rfl rfl) rfl ?_
          refine rl_nil ?_
          refine at_then ?_
          first | refine ct_dec rfl (fun h2 => ?_) (fun h2 => ?_) | refine ct_ndec rfl (fun h2 => ?_) (fun h2 => ?_) | refine ct_eq rfl (fun h2 => ?_) (fun h2 => ?_) | refine ct_ne rfl (fun h2 => ?_) (fun h2 => ?_) | refine ct_not rfl (fun h2 => ?_) (fun h2 => ?_) | refine ct_cond rfl (fun h2 => ?_) (fun h2 => ?_)
          ·
            have hk2 : k < xs.length := by omega
            obtain ⟨b, o, rfl, hel⟩ := hsr.elem encStudent_len (by omega) hk2
            have hx := getLt hk2
            have hy := getLt (show k - 1 < xs.length by omega)
            have hst := studentStep_eq hx hy
            have hgood : studentStep xs k = true → (k + 1 ≤ xs.length ∧ ∀ j, j < k + 1 → studentStep xs j = true) := fun ht => ⟨hk2, fun j hj => by by_cases hjk : j = k; exact hjk ▸ ht; exact hall j (by omega)⟩
            generalize xs[k] = x at *
            generalize xs[k - 1] = y at *
            have hcx := hel k x hx
            obtain ⟨c0, c1, c2, c3, c4, _⟩ := hel k x hx
            obtain ⟨d0, d1, d2, d3, d4, _⟩ := hel (k - 1) y hy
            refine ct_skip ?_
            refine at_then ?_
            refine ct_seq ?_
            refine ct_block ?_
            refine ct_seq ?_
            refine ct_reg ?_
            refine rl_val gw_none (ov_field fo24_1 rfl) rfl ?_
            first | refine rl_val gw_none (ov_load 0 sc22 rfl rfl rfl) rfl ?_ | refine rl_val gw_none (ov_load 0 sc22 rfl rfl (by assumption)) rfl ?_
            refine rl_val gw_none (ov_move rfl) rfl ?_
            first | refine rl_val gw_none (ov_ix Try.underlying22 sz69 rfl rfl _ rfl (by omega)) rfl ?_ | refine rl_val gw_none (ov_ix Try.underlying22 sz69 rfl rfl (k - 1) (by omega) (by omega)) rfl ?_
            first | refine rl_val gw_none (ov_loadaw ag69 rfl rfl (by assumption)) rfl ?_ | refine rl_val gw_none (ov_loadall 0 ag69 rfl rfl rfl) rfl ?_ | refine rl_val gw_none (ov_loadall 1 ag69 rfl rfl rfl) rfl ?_ | refine rl_val gw_none (ov_loadall 2 ag69 rfl rfl rfl) rfl ?_ | refine rl_val gw_none (ov_loadall 3 ag69 rfl rfl rfl) rfl ?_
            refine rl_alloc ze69 rfl (fun N2 => ?_)
            refine rl_store [] sz69 rfl rfl rfl rfl rfl (Nat.le_of_ble_eq_true rfl) ?_
            refine rl_nil ?_
            refine at_then ?_
            refine ct_seq ?_
            refine ct_dr 44 (by kernel_rfl) (by kernel_rfl) ?_
            refine ql_val gw_none (ov_field fo69_0 rfl) rfl ?_
            first | refine ql_val gw_none (ov_load 0 sc3 rfl rfl rfl) rfl ?_ | refine ql_val gw_none (ov_load 0 sc3 rfl rfl (by assumption)) rfl ?_
            refine ql_callv gw_none goes81 rfl (fun w1 hp => l1In_c _ _ _ _) rfl ?_
            refine ql_val gw_none (ov_not rfl) rfl ?_
            refine ql_val gw_none (ov_move rfl) rfl ?_
            refine ql_split (t := 43) rfl (fun g4 => ?_) (fun g4 => ?_)
            ·
              have g4' := g4
              try simp only [Bool.not_eq_true', Bool.not_eq_false', Bool.not_not, decide_eq_true_eq, decide_eq_false_iff_not, beq_iff_eq, beq_eq_false_iff_ne, bne_iff_ne, bne_eq_false_iff_eq, Bool.and_eq_true, Bool.or_eq_true, Bool.and_eq_false_iff, Bool.or_eq_false_iff, inB] at g4'
              refine ql_skip (gw_not rfl rfl g4) rfl ?_
              refine ql_skip (gw_not rfl rfl g4) rfl ?_
              refine ql_skip (gw_not rfl rfl g4) rfl ?_
              refine ql_skip (gw_not rfl rfl g4) rfl ?_
              refine ql_val gw_none (ov_pick_t rfl g4 rfl) rfl ?_
              refine ql_val gw_none (ov_move rfl) rfl ?_
              refine ql_skip (gw_not rfl rfl rfl) rfl ?_
              refine ql_skip (gw_not rfl rfl rfl) rfl ?_
              refine ql_skip (gw_not rfl rfl rfl) rfl ?_
              refine ql_skip (gw_not rfl rfl rfl) rfl ?_
              refine ql_val gw_none (ov_pick_t rfl rfl rfl) rfl ?_
              refine ql_val gw_none (ov_move rfl) rfl ?_
              refine ql_skip (gw_not rfl rfl rfl) rfl ?_
              refine ql_skip (gw_not rfl rfl rfl) rfl ?_
              refine ql_skip (gw_not rfl rfl rfl) rfl ?_
              refine ql_skip (gw_not rfl rfl rfl) rfl ?_
              refine ql_val gw_none (ov_pick_t rfl rfl rfl) rfl ?_
              refine ql_val gw_none (ov_move rfl) rfl ?_
              refine ql_skip (gw_not rfl rfl rfl) rfl ?_
              refine ql_skip (gw_not rfl rfl rfl) rfl ?_
              refine ql_skip (gw_not rfl rfl rfl) rfl ?_
              refine ql_skip (gw_not rfl rfl rfl) rfl ?_
              refine ql_val gw_none (ov_pick_t rfl rfl rfl) rfl ?_
              refine ql_val gw_none (ov_move rfl) rfl ?_
              refine ql_skip (gw_not rfl rfl rfl) rfl ?_
              refine ql_skip (gw_not rfl rfl rfl) rfl ?_
              refine ql_skip (gw_not rfl rfl rfl) rfl ?_
              refine ql_skip (gw_undef rfl rfl) rfl ?_
              refine ql_skip (gw_undef rfl rfl) rfl ?_
              refine ql_skip (gw_undef rfl rfl) rfl ?_
              refine ql_skip (gw_undef rfl rfl) rfl ?_
              refine ql_skip (gw_undef rfl rfl) rfl ?_
              refine ql_skip (gw_undef rfl rfl) rfl ?_
              refine ql_skip (gw_undef rfl rfl) rfl ?_
              refine ql_skip (gw_undef rfl rfl) rfl ?_
              refine ql_skip (gw_undef rfl rfl) rfl ?_
              refine ql_skip (gw_undef rfl rfl) rfl ?_
              refine ql_skip (gw_not rfl rfl rfl) rfl ?_
              refine ql_val gw_none (ov_pick_t rfl rfl rfl) rfl ?_
              refine ql_nil ?_
              refine rl_nil ?_
              refine at_then ?_
              refine ct_true rfl rfl ?_
              refine ct_seq ?_
              refine ct_reg ?_
              refine rl_val gw_none (ov_assign rfl) rfl ?_
              refine rl_nil ?_
              refine at_then ?_
              refine ct_ret ?_
              refine at_block_ret ?_
              refine at_then_ret ?_
              refine at_then_ret ?_
              refine at_block_ret ?_
              refine at_then_ret ?_
              refine at_ret1 Try.results57 (ro_tmp rfl) (fun w1 hp => ?_)
              refine ⟨?_, hp.ext0⟩
              unfold schoolB
              first | (rw [listB_false hk2 (by rw [hst]; simp_all [studentB, inB]; try omega), Bool.and_false]; done) | (rw [listB_end hall]; first | (simp_all [inB]; done) | (simp_all [inB]; omega)) | (rw [listB_long (by first | omega | (simp at *; omega)), Bool.and_false]; done) | (simp_all [inB]; done) | (simp_all [inB]; intros; omega)
            ·
              have g4' := g4
              try simp only [Bool.not_eq_true', Bool.not_eq_false', Bool.not_not, decide_eq_true_eq, decide_eq_false_iff_not, beq_iff_eq, beq_eq_false_iff_ne, bne_iff_ne, bne_eq_false_iff_eq, Bool.and_eq_true, Bool.or_eq_true, Bool.and_eq_false_iff, Bool.or_eq_false_iff, inB] at g4'
              refine ql_val (gw_some rfl rfl g4) (ov_field fo69_1 rfl) rfl ?_
              first | refine ql_val (gw_some rfl rfl g4) (ov_load 0 sc3 rfl rfl rfl) rfl ?_ | refine ql_val (gw_some rfl rfl g4) (ov_load 0 sc3 rfl rfl (by assumption)) rfl ?_
              refine ql_callv (gw_some rfl rfl g4) goes81 rfl (fun w1 hp => l1In_c _ _ _ _) rfl ?_
              refine ql_val (gw_some rfl rfl g4) (ov_not rfl) rfl ?_
              refine ql_val gw_none (ov_pick_f rfl g4 rfl) rfl ?_
              refine ql_val gw_none (ov_move rfl) rfl ?_
              refine ql_split (t := 49) rfl (fun g5 => ?_) (fun g5 => ?_)
              ·
                have g5' := g5
                try simp only [Bool.not_eq_true', Bool.not_eq_false', Bool.not_not, decide_eq_true_eq, decide_eq_false_iff_not, beq_iff_eq, beq_eq_false_iff_ne, bne_iff_ne, bne_eq_false_iff_eq, Bool.and_eq_true, Bool.or_eq_true, Bool.and_eq_false_iff, Bool.or_eq_false_iff, inB] at g5'
                refine ql_skip (gw_not rfl rfl g5) rfl ?_
                refine ql_skip (gw_not rfl rfl g5) rfl ?_
                refine ql_skip (gw_not rfl rfl g5) rfl ?_
                refine ql_skip (gw_not rfl rfl g5) rfl ?_
                refine ql_val gw_none (ov_pick_t rfl g5 rfl) rfl ?_
                refine ql_val gw_none (ov_move rfl) rfl ?_
                refine ql_skip (gw_not rfl rfl rfl) rfl ?_
                refine ql_skip (gw_not rfl rfl rfl) rfl ?_
                refine ql_skip (gw_not rfl rfl rfl) rfl ?_
                refine ql_skip (gw_not rfl rfl rfl) rfl ?_
                refine ql_val gw_none (ov_pick_t rfl rfl rfl) rfl ?_
                refine ql_val gw_none (ov_move rfl) rfl ?_
                refine ql_skip (gw_not rfl rfl rfl) rfl ?_
                refine ql_skip (gw_not rfl rfl rfl) rfl ?_
                refine ql_skip (gw_not rfl rfl rfl) rfl ?_
                refine ql_skip (gw_not rfl rfl rfl) rfl ?_
                refine ql_val gw_none (ov_pick_t rfl rfl rfl) rfl ?_
                refine ql_val gw_none (ov_move rfl) rfl ?_
                refine ql_skip (gw_not rfl rfl rfl) rfl ?_
                refine ql_skip (gw_not rfl rfl rfl) rfl ?_
                refine ql_skip (gw_not rfl rfl rfl) rfl ?_
                refine ql_skip (gw_undef rfl rfl) rfl ?_
                refine ql_skip (gw_undef rfl rfl) rfl ?_
                refine ql_skip (gw_undef rfl rfl) rfl ?_
                refine ql_skip (gw_undef rfl rfl) rfl ?_
                refine ql_skip (gw_undef rfl rfl) rfl ?_
                refine ql_skip (gw_undef rfl rfl) rfl ?_
                refine ql_skip (gw_undef rfl rfl) rfl ?_
                refine ql_skip (gw_undef rfl rfl) rfl ?_
                refine ql_skip (gw_undef rfl rfl) rfl ?_
                refine ql_skip (gw_undef rfl rfl) rfl ?_
                refine ql_skip (gw_not rfl rfl rfl) rfl ?_
                refine ql_val gw_none (ov_pick_t rfl rfl rfl) rfl ?_
                refine ql_nil ?_
                refine rl_nil ?_
                refine at_then ?_
                refine ct_true rfl rfl ?_
                refine ct_seq ?_
                refine ct_reg ?_
                refine rl_val gw_none (ov_assign rfl) rfl ?_
                refine rl_nil ?_
                refine at_then ?_
                refine ct_ret ?_
                refine at_block_ret ?_
                refine at_then_ret ?_
                refine at_then_ret ?_
                refine at_block_ret ?_
                refine at_then_ret ?_
                refine at_ret1 Try.results57 (ro_tmp rfl) (fun w1 hp => ?_)
                refine ⟨?_, hp.ext0⟩
                unfold schoolB
                first | (rw [listB_false hk2 (by rw [hst]; simp_all [studentB, inB]; try omega), Bool.and_false]; done) | (rw [listB_end hall]; first | (simp_all [inB]; done) | (simp_all [inB]; omega)) | (rw [listB_long (by first | omega | (simp at *; omega)), Bool.and_false]; done) | (simp_all [inB]; done) | (simp_all [inB]; intros; omega)
              ·
                have g5' := g5
                try simp only [Bool.not_eq_true', Bool.not_eq_false', Bool.not_not, decide_eq_true_eq, decide_eq_false_iff_not, beq_iff_eq, beq_eq_false_iff_ne, bne_iff_ne, bne_eq_false_iff_eq, Bool.and_eq_true, Bool.or_eq_true, Bool.and_eq_false_iff, Bool.or_eq_false_iff, inB] at g5'
                refine ql_val (gw_some rfl rfl g5) (ov_field fo69_2 rfl) rfl ?_
                first | refine ql_val (gw_some rfl rfl g5) (ov_load 0 sc3 rfl rfl rfl) rfl ?_ | refine ql_val (gw_some rfl rfl g5) (ov_load 0 sc3 rfl rfl (by assumption)) rfl ?_
                refine ql_callv (gw_some rfl rfl g5) goes81 rfl (fun w1 hp => l1In_c _ _ _ _) rfl ?_
                refine ql_val (gw_some rfl rfl g5) (ov_not rfl) rfl ?_
                refine ql_val gw_none (ov_pick_f rfl g5 rfl) rfl ?_
                refine ql_val gw_none (ov_move rfl) rfl ?_
                refine ql_split (t := 55) rfl (fun g6 => ?_) (fun g6 => ?_)
                ·
                  have g6' := g6
                  try simp only [Bool.not_eq_true', Bool.not_eq_false', Bool.not_not, decide_eq_true_eq, decide_eq_false_iff_not, beq_iff_eq, beq_eq_false_iff_ne, bne_iff_ne, bne_eq_false_iff_eq, Bool.and_eq_true, Bool.or_eq_true, Bool.and_eq_false_iff, Bool.or_eq_false_iff, inB] at g6'
                  refine ql_skip (gw_not rfl rfl g6) rfl ?_
                  refine ql_skip (gw_not rfl rfl g6) rfl ?_
                  refine ql_skip (gw_not rfl rfl g6) rfl ?_
                  refine ql_skip (gw_not rfl rfl g6) rfl ?_
                  refine ql_val gw_none (ov_pick_t rfl g6 rfl) rfl ?_
                  refine ql_val gw_none (ov_move rfl) rfl ?_
                  refine ql_skip (gw_not rfl rfl rfl) rfl ?_
                  refine ql_skip (gw_not rfl rfl rfl) rfl ?_
                  refine ql_skip (gw_not rfl rfl rfl) rfl ?_
                  refine ql_skip (gw_not rfl rfl rfl) rfl ?_
                  refine ql_val gw_none (ov_pick_t rfl rfl rfl) rfl ?_
                  refine ql_val gw_none (ov_move rfl) rfl ?_
                  refine ql_skip (gw_not rfl rfl rfl) rfl ?_
                  refine ql_skip (gw_not rfl rfl rfl) rfl ?_
                  refine ql_skip (gw_not rfl rfl rfl) rfl ?_
                  refine ql_skip (gw_undef rfl rfl) rfl ?_
                  refine ql_skip (gw_undef rfl rfl) rfl ?_
                  refine ql_skip (gw_undef rfl rfl) rfl ?_
                  refine ql_skip (gw_undef rfl rfl) rfl ?_
                  refine ql_skip (gw_undef rfl rfl) rfl ?_
                  refine ql_skip (gw_undef rfl rfl) rfl ?_
                  refine ql_skip (gw_undef rfl rfl) rfl ?_
                  refine ql_skip (gw_undef rfl rfl) rfl ?_
                  refine ql_skip (gw_undef rfl rfl) rfl ?_
                  refine ql_skip (gw_undef rfl rfl) rfl ?_
                  refine ql_skip (gw_not rfl rfl rfl) rfl ?_
                  refine ql_val gw_none (ov_pick_t rfl rfl rfl) rfl ?_
                  refine ql_nil ?_
                  refine rl_nil ?_
                  refine at_then ?_
                  refine ct_true rfl rfl ?_
                  refine ct_seq ?_
                  refine ct_reg ?_
                  refine rl_val gw_none (ov_assign rfl) rfl ?_
                  refine rl_nil ?_
                  refine at_then ?_
                  refine ct_ret ?_
                  refine at_block_ret ?_
                  refine at_then_ret ?_
                  refine at_then_ret ?_
                  refine at_block_ret ?_
                  refine at_then_ret ?_
                  refine at_ret1 Try.results57 (ro_tmp rfl) (fun w1 hp => ?_)
                  refine ⟨?_, hp.ext0⟩
                  unfold schoolB
                  first | (rw [listB_false hk2 (by rw [hst]; simp_all [studentB, inB]; try omega), Bool.and_false]; done) | (rw [listB_end hall]; first | (simp_all [inB]; done) | (simp_all [inB]; omega)) | (rw [listB_long (by first | omega | (simp at *; omega)), Bool.and_false]; done) | (simp_all [inB]; done) | (simp_all [inB]; intros; omega)
                ·
                  have g6' := g6
                  try simp only [Bool.not_eq_true', Bool.not_eq_false', Bool.not_not, decide_eq_true_eq, decide_eq_false_iff_not, beq_iff_eq, beq_eq_false_iff_ne, bne_iff_ne, bne_eq_false_iff_eq, Bool.and_eq_true, Bool.or_eq_true, Bool.and_eq_false_iff, Bool.or_eq_false_iff, inB] at g6'
                  refine ql_val (gw_some rfl rfl g6) (ov_field fo69_3 rfl) rfl ?_
                  first | refine ql_val (gw_some rfl rfl g6) (ov_load 0 sc3 rfl rfl rfl) rfl ?_ | refine ql_val (gw_some rfl rfl g6) (ov_load 0 sc3 rfl rfl (by assumption)) rfl ?_
                  refine ql_callv (gw_some rfl rfl g6) goes81 rfl (fun w1 hp => l1In_c _ _ _ _) rfl ?_
                  refine ql_val (gw_some rfl rfl g6) (ov_not rfl) rfl ?_
                  refine ql_val gw_none (ov_pick_f rfl g6 rfl) rfl ?_
                  refine ql_val gw_none (ov_move rfl) rfl ?_
                  refine ql_split (t := 61) rfl (fun g7 => ?_) (fun g7 => ?_)
                  ·
                    have g7' := g7
                    try simp only [Bool.not_eq_true', Bool.not_eq_false', Bool.not_not, decide_eq_true_eq, decide_eq_false_iff_not, beq_iff_eq, beq_eq_false_iff_ne, bne_iff_ne, bne_eq_false_iff_eq, Bool.and_eq_true, Bool.or_eq_true, Bool.and_eq_false_iff, Bool.or_eq_false_iff, inB] at g7'
                    refine ql_skip (gw_not rfl rfl g7) rfl ?_
                    refine ql_skip (gw_not rfl rfl g7) rfl ?_
                    refine ql_skip (gw_not rfl rfl g7) rfl ?_
                    refine ql_skip (gw_not rfl rfl g7) rfl ?_
                    refine ql_val gw_none (ov_pick_t rfl g7 rfl) rfl ?_
                    refine ql_val gw_none (ov_move rfl) rfl ?_
                    refine ql_skip (gw_not rfl rfl rfl) rfl ?_
                    refine ql_skip (gw_not rfl rfl rfl) rfl ?_
                    refine ql_skip (gw_not rfl rfl rfl) rfl ?_
                    refine ql_skip (gw_undef rfl rfl) rfl ?_
                    refine ql_skip (gw_undef rfl rfl) rfl ?_
                    refine ql_skip (gw_undef rfl rfl) rfl ?_
                    refine ql_skip (gw_undef rfl rfl) rfl ?_
                    refine ql_skip (gw_undef rfl rfl) rfl ?_
                    refine ql_skip (gw_undef rfl rfl) rfl ?_
                    refine ql_skip (gw_undef rfl rfl) rfl ?_
                    refine ql_skip (gw_undef rfl rfl) rfl ?_
                    refine ql_skip (gw_undef rfl rfl) rfl ?_
                    refine ql_skip (gw_undef rfl rfl) rfl ?_
                    refine ql_skip (gw_not rfl rfl rfl) rfl ?_
                    refine ql_val gw_none (ov_pick_t rfl rfl rfl) rfl ?_
                    refine ql_nil ?_
                    refine rl_nil ?_
                    refine at_then ?_
                    refine ct_true rfl rfl ?_
                    refine ct_seq ?_
                    refine ct_reg ?_
                    refine rl_val gw_none (ov_assign rfl) rfl ?_
                    refine rl_nil ?_
                    refine at_then ?_
                    refine ct_ret ?_
                    refine at_block_ret ?_
                    refine at_then_ret ?_
                    refine at_then_ret ?_
                    refine at_block_ret ?_
                    refine at_then_ret ?_
                    refine at_ret1 Try.results57 (ro_tmp rfl) (fun w1 hp => ?_)
                    refine ⟨?_, hp.ext0⟩
                    unfold schoolB
                    first | (rw [listB_false hk2 (by rw [hst]; simp_all [studentB, inB]; try omega), Bool.and_false]; done) | (rw [listB_end hall]; first | (simp_all [inB]; done) | (simp_all [inB]; omega)) | (rw [listB_long (by first | omega | (simp at *; omega)), Bool.and_false]; done) | (simp_all [inB]; done) | (simp_all [inB]; intros; omega)
                  ·
                    have g7' := g7
                    try simp only [Bool.not_eq_true', Bool.not_eq_false', Bool.not_not, decide_eq_true_eq, decide_eq_false_iff_not, beq_iff_eq, beq_eq_false_iff_ne, bne_iff_ne, bne_eq_false_iff_eq, Bool.and_eq_true, Bool.or_eq_true, Bool.and_eq_false_iff, Bool.or_eq_false_iff, inB] at g7'
                    refine ql_val (gw_some rfl rfl g7) (ov_field fo69_4 rfl) rfl ?_
                    first | refine ql_val (gw_some rfl rfl g7) (ov_load 0 sc3 rfl rfl rfl) rfl ?_ | refine ql_val (gw_some rfl rfl g7) (ov_load 0 sc3 rfl rfl (by assumption)) rfl ?_
                    refine ql_callv (gw_some rfl rfl g7) goes81 rfl (fun w1 hp => l1In_c _ _ _ _) rfl ?_
                    refine ql_val (gw_some rfl rfl g7) (ov_not rfl) rfl ?_
                    refine ql_val gw_none (ov_pick_f rfl g7 rfl) rfl ?_
                    refine ql_val gw_none (ov_move rfl) rfl ?_
                    refine ql_split (t := 67) rfl (fun g8 => ?_) (fun g8 => ?_)
                    ·
                      have g8' := g8
                      try simp only [Bool.not_eq_true', Bool.not_eq_false', Bool.not_not, decide_eq_true_eq, decide_eq_false_iff_not, beq_iff_eq, beq_eq_false_iff_ne, bne_iff_ne, bne_eq_false_iff_eq, Bool.and_eq_true, Bool.or_eq_true, Bool.and_eq_false_iff, Bool.or_eq_false_iff, inB] at g8'
                      refine ql_skip (gw_not rfl rfl g8) rfl ?_
                      refine ql_skip (gw_not rfl rfl g8) rfl ?_
                      refine ql_skip (gw_not rfl rfl g8) rfl ?_
                      refine ql_skip (gw_undef rfl rfl) rfl ?_
                      refine ql_skip (gw_undef rfl rfl) rfl ?_
                      refine ql_skip (gw_undef rfl rfl) rfl ?_
                      refine ql_skip (gw_undef rfl rfl) rfl ?_
                      refine ql_skip (gw_undef rfl rfl) rfl ?_
                      refine ql_skip (gw_undef rfl rfl) rfl ?_
                      refine ql_skip (gw_undef rfl rfl) rfl ?_
                      refine ql_skip (gw_undef rfl rfl) rfl ?_
                      refine ql_skip (gw_undef rfl rfl) rfl ?_
                      refine ql_skip (gw_undef rfl rfl) rfl ?_
                      refine ql_skip (gw_not rfl rfl g8) rfl ?_
                      refine ql_val gw_none (ov_pick_t rfl g8 rfl) rfl ?_
                      refine ql_nil ?_
                      refine rl_nil ?_
                      refine at_then ?_
                      refine ct_true rfl rfl ?_
                      refine ct_seq ?_
                      refine ct_reg ?_
                      refine rl_val gw_none (ov_assign rfl) rfl ?_
                      refine rl_nil ?_
                      refine at_then ?_
                      refine ct_ret ?_
                      refine at_block_ret ?_
                      refine at_then_ret ?_
                      refine at_then_ret ?_
                      refine at_block_ret ?_
                      refine at_then_ret ?_
                      refine at_ret1 Try.results57 (ro_tmp rfl) (fun w1 hp => ?_)
                      refine ⟨?_, hp.ext0⟩
                      unfold schoolB
                      first | (rw [listB_false hk2 (by rw [hst]; simp_all [studentB, inB]; try omega), Bool.and_false]; done) | (rw [listB_end hall]; first | (simp_all [inB]; done) | (simp_all [inB]; omega)) | (rw [listB_long (by first | omega | (simp at *; omega)), Bool.and_false]; done) | (simp_all [inB]; done) | (simp_all [inB]; intros; omega)
                    ·
                      have g8' := g8
                      try simp only [Bool.not_eq_true', Bool.not_eq_false', Bool.not_not, decide_eq_true_eq, decide_eq_false_iff_not, beq_iff_eq, beq_eq_false_iff_ne, bne_iff_ne, bne_eq_false_iff_eq, Bool.and_eq_true, Bool.or_eq_true, Bool.and_eq_false_iff, Bool.or_eq_false_iff, inB] at g8'
                      refine ql_val (gw_some rfl rfl g8) (ov_move rfl) rfl ?_
                      refine ql_val (gw_some rfl rfl g8) (ov_gtr rfl rfl) rfl ?_
                      refine ql_val (gw_some rfl rfl g8) (ov_move rfl) rfl ?_
                      refine ql_split (t := 70) rfl (fun g9 => ?_) (fun g9 => ?_)
                      ·
                        have g9' := g9
                        try simp only [Bool.not_eq_true', Bool.not_eq_false', Bool.not_not, decide_eq_true_eq, decide_eq_false_iff_not, beq_iff_eq, beq_eq_false_iff_ne, bne_iff_ne, bne_eq_false_iff_eq, Bool.and_eq_true, Bool.or_eq_true, Bool.and_eq_false_iff, Bool.or_eq_false_iff, inB] at g9'
                        refine ql_val (gw_some rfl rfl g9) (ov_field fo24_1 rfl) rfl ?_
                        first | refine ql_val (gw_some rfl rfl g9) (ov_load 1 sc22 rfl rfl rfl) rfl ?_ | refine ql_val (gw_some rfl rfl g9) (ov_load 1 sc22 rfl rfl (by assumption)) rfl ?_
                        refine ql_val (gw_some rfl rfl g9) (ov_move rfl) rfl ?_
                        refine ql_val (gw_some rfl rfl g9) (ov_sub rfl rfl (by omega)) rfl ?_
                        first | refine ql_val (gw_some rfl rfl g9) (ov_ix Try.underlying22 sz69 rfl rfl _ rfl (by omega)) rfl ?_ | refine ql_val (gw_some rfl rfl g9) (ov_ix Try.underlying22 sz69 rfl rfl (k - 1) (by omega) (by omega)) rfl ?_
                        refine ql_val (gw_some rfl rfl g9) (ov_field fo69_0 rfl) rfl ?_
                        first | refine ql_val (gw_some rfl rfl g9) (ov_load 0 sc3 rfl rfl rfl) rfl ?_ | refine ql_val (gw_some rfl rfl g9) (ov_load 1 sc3 rfl rfl rfl) rfl ?_ | refine ql_val (gw_some rfl rfl g9) (ov_load 2 sc3 rfl rfl rfl) rfl ?_ | refine ql_val (gw_some rfl rfl g9) (ov_load 3 sc3 rfl rfl rfl) rfl ?_ | refine ql_val (gw_some rfl rfl g9) (ov_loadw sc3 rfl (by assumption)) rfl ?_ | refine ql_val (gw_some rfl rfl g9) (ov_load 0 sc3 rfl rfl (by assumption)) rfl ?_ | refine ql_val (gw_some rfl rfl g9) (ov_load 1 sc3 rfl rfl (by assumption)) rfl ?_ | refine ql_val (gw_some rfl rfl g9) (ov_load 2 sc3 rfl rfl (by assumption)) rfl ?_ | refine ql_val (gw_some rfl rfl g9) (ov_load 3 sc3 rfl rfl (by assumption)) rfl ?_
                        refine ql_val (gw_some rfl rfl g9) (ov_field fo69_0 rfl) rfl ?_
                        first | refine ql_val (gw_some rfl rfl g9) (ov_load 0 sc3 rfl rfl rfl) rfl ?_ | refine ql_val (gw_some rfl rfl g9) (ov_load 0 sc3 rfl rfl (by assumption)) rfl ?_
                        refine ql_val (gw_some rfl rfl g9) (ov_geq rfl rfl) rfl ?_
                        refine ql_val (gw_some rfl rfl g8) (ov_pick_t rfl g9 rfl) rfl ?_
                        refine ql_val gw_none (ov_pick_f rfl g8 rfl) rfl ?_
                        refine ql_nil ?_
                        refine rl_nil ?_
                        refine at_then ?_
                        first | refine ct_dec rfl (fun h3 => ?_) (fun h3 => ?_) | refine ct_ndec rfl (fun h3 => ?_) (fun h3 => ?_) | refine ct_eq rfl (fun h3 => ?_) (fun h3 => ?_) | refine ct_ne rfl (fun h3 => ?_) (fun h3 => ?_) | refine ct_not rfl (fun h3 => ?_) (fun h3 => ?_) | refine ct_cond rfl (fun h3 => ?_) (fun h3 => ?_)
                        ·
                          refine ct_seq ?_
                          refine ct_reg ?_
                          refine rl_val gw_none (ov_assign rfl) rfl ?_
                          refine rl_nil ?_
                          refine at_then ?_
                          refine ct_ret ?_
                          refine at_block_ret ?_
                          refine at_then_ret ?_
                          refine at_then_ret ?_
                          refine at_block_ret ?_
                          refine at_then_ret ?_
                          refine at_ret1 Try.results57 (ro_tmp rfl) (fun w1 hp => ?_)
                          refine ⟨?_, hp.ext0⟩
                          unfold schoolB
                          first | (rw [listB_false hk2 (by rw [hst]; simp_all [studentB, inB]; try omega), Bool.and_false]; done) | (rw [listB_end hall]; first | (simp_all [inB]; done) | (simp_all [inB]; omega)) | (rw [listB_long (by first | omega | (simp at *; omega)), Bool.and_false]; done) | (simp_all [inB]; done) | (simp_all [inB]; intros; omega)
                        ·
                          refine ct_skip ?_
                          refine at_block ?_
                          refine at_then ?_
                          refine ct_reg ?_
                          refine rl_val gw_none (ov_move rfl) rfl ?_
                          refine rl_val gw_none (ov_add rfl rfl (by omega)) rfl ?_
                          refine rl_val gw_none (ov_assign rfl) rfl ?_
                          refine rl_nil ?_
                          have hstT : studentStep xs k = true := by rw [hst]; simp_all [studentB, inB]; try omega
                          exact at_backR (k + 1) (hgood hstT) (by first | exact True.intro | omega | (dsimp only; omega) | (dsimp only at *; omega)) (by (repeat' (first | exact Sub.nil | refine Sub.cons ?_ ?_)); all_goals (first | rfl | exact lkInt rfl (by omega))) (Sub.cons rfl Sub.nil) (fun _ hq => hq.drop)
                      ·
                        have g9' := g9
                        try simp only [Bool.not_eq_true', Bool.not_eq_false', Bool.not_not, decide_eq_true_eq, decide_eq_false_iff_not, beq_iff_eq, beq_eq_false_iff_ne, bne_iff_ne, bne_eq_false_iff_eq, Bool.and_eq_true, Bool.or_eq_true, Bool.and_eq_false_iff, Bool.or_eq_false_iff, inB] at g9'
                        refine ql_skip (gw_not rfl rfl g9) rfl ?_
                        refine ql_skip (gw_not rfl rfl g9) rfl ?_
                        refine ql_skip (gw_not rfl rfl g9) rfl ?_
                        refine ql_skip (gw_not rfl rfl g9) rfl ?_
                        refine ql_skip (gw_not rfl rfl g9) rfl ?_
                        refine ql_skip (gw_not rfl rfl g9) rfl ?_
                        refine ql_skip (gw_not rfl rfl g9) rfl ?_
                        refine ql_skip (gw_not rfl rfl g9) rfl ?_
                        refine ql_skip (gw_not rfl rfl g9) rfl ?_
                        refine ql_skip (gw_not rfl rfl g9) rfl ?_
                        refine ql_val (gw_some rfl rfl g8) (ov_pick_f rfl g9 rfl) rfl ?_
                        refine ql_val gw_none (ov_pick_f rfl g8 rfl) rfl ?_
                        refine ql_nil ?_
                        refine rl_nil ?_
                        refine at_then ?_
                        refine ct_false rfl rfl ?_
                        refine ct_skip ?_
                        refine at_block ?_
                        refine at_then ?_
                        refine ct_reg ?_
                        refine rl_val gw_none (ov_move rfl) rfl ?_
                        refine rl_val gw_none (ov_add rfl rfl (by omega)) rfl ?_
                        refine rl_val gw_none (ov_assign rfl) rfl ?_
                        refine rl_nil ?_
                        have hstT : studentStep xs k = true := by rw [hst]; simp_all [studentB, inB]; try omega
                        exact at_backR (k + 1) (hgood hstT) (by first | exact True.intro | omega | (dsimp only; omega) | (dsimp only at *; omega)) (by (repeat' (first | exact Sub.nil | refine Sub.cons ?_ ?_)); all_goals (first | rfl | exact lkInt rfl (by omega))) (Sub.cons rfl Sub.nil) (fun _ hq => hq.drop)
          ·
            have hke : k = xs.length := by omega
            subst hke
            refine ct_exit ?_
            refine at_then_exit ?_
            refine at_then_exit ?_
            refine at_block_hit ?_
            refine at_then ?_
            refine ct_seq ?_
            refine ct_reg ?_
            refine rl_val gw_none (ov_assign rfl) rfl ?_
            refine rl_nil ?_
            refine at_then ?_
            refine ct_ret ?_
            refine at_ret1 Try.results57 (ro_tmp rfl) (fun w1 hp => ?_)
            refine ⟨?_, hp.ext0⟩
            unfold schoolB
            first | (rw [listB_false hk2 (by rw [hst]; simp_all [studentB, inB]; try omega), Bool.and_false]; done) | (rw [listB_end hall]; first | (simp_all [inB]; done) | (simp_all [inB]; omega)) | (rw [listB_long (by first | omega | (simp at *; omega)), Bool.and_false]; done) | (simp_all [inB]; done) | (simp_all [inB]; intros; omega)

theorem sIsSchool_c (d : Int) (xs : List Student) (pa : Int) (le : Int) (vxs : Value) (w : World) (zd : In64 d) (hGxs : ∀ y ∈ xs, GStudent y) (hsxs : SR w 5 vxs xs.length (flat encStudent xs)) (zpa : In64 pa) (zle : In64 le) : Calls Try.prog 21 ([.agg (List.toArray (α := Value) [.int .i64 d, vxs, .int .i64 pa, .int .i64 le])]).toArray w (fun e w' => e = .returned (.bool (schoolB d xs pa le)) ∧ Ext w w') := by
  obtain ⟨axs, capxs, rfl, hcapxs, hmaxxs⟩ := hsxs.slice
  have hlenxs := hsxs.len_le
  refine calls_ct Try.func21 Try.ntmps21 rfl rfl ?_
  refine ct_seq ?_
  refine ct_reg ?_
  refine rl_box rfl rfl (fun N1 => ?_)
  refine rl_val gw_none (ov_assign rfl) rfl ?_
  refine rl_nil ?_
  refine at_then ?_
  refine ct_seq ?_
  refine ct_reg ?_
  first | refine rl_val gw_none (ov_loadall 0 ag24 rfl rfl rfl) rfl ?_ | refine rl_val gw_none (ov_loadp 0 ag24 rfl rfl (vs := [_, _, _, _]) rfl rfl) rfl ?_ | refine rl_val gw_none (ov_loada 0 ag24 rfl rfl rfl (by assumption)) rfl ?_
  refine rl_callv gw_none goes57 rfl (fun w1 hp => l25Good_c d xs pa le _ _ zd hGxs (hsxs.ext hp.ext0) zpa zle) rfl ?_
  refine rl_val gw_none (ov_assign rfl) rfl ?_
  refine rl_nil ?_
  refine at_then ?_
  refine ct_ret ?_
  refine at_ret1 Try.results21 (ro_tmp rfl) (fun w1 hp => ?_)
  exact ⟨rfl, hp.ext0⟩

theorem wanted_c (n : Int) (w : World) (hn : 0 ≤ n ∧ n ≤ 1000) : Calls Try.prog 65 ([.int .i64 n]).toArray w (fun e w' => e = .returned (.int .i64 (10 + 5 * n)) ∧ Ext w w') := by
  refine calls_ct Try.func65 Try.ntmps65 rfl rfl ?_
  refine ct_seq ?_
  refine ct_reg ?_
  refine rl_val gw_none (ov_assign rfl) rfl ?_
  refine rl_nil ?_
  refine at_then ?_
  refine ct_seq ?_
  refine ct_reg ?_
  refine rl_val gw_none (ov_move rfl) rfl ?_
  refine rl_val gw_none (ov_mul rfl rfl (by omega)) rfl ?_
  refine rl_val gw_none (ov_add rfl rfl (by omega)) rfl ?_
  refine rl_val gw_none (ov_assign rfl) rfl ?_
  refine rl_nil ?_
  refine at_then ?_
  refine ct_ret ?_
  refine at_ret1 Try.results65 (ro_tmp rfl) (fun w1 hp => ?_)
  exact ⟨rfl, hp.ext0⟩

theorem l25Wanted_c (n : Int) (w : World) (hn : 0 ≤ n ∧ n ≤ 1000) : Calls Try.prog 63 ([.int .i64 n]).toArray w (fun e w' => e = .returned (.int .i64 (10 + 5 * n)) ∧ Ext w w') := by
  refine calls_ct Try.func63 Try.ntmps63 rfl rfl ?_
  refine ct_seq ?_
  refine ct_reg ?_
  refine rl_val gw_none (ov_assign rfl) rfl ?_
  refine rl_nil ?_
  refine at_then ?_
  refine ct_seq ?_
  refine ct_reg ?_
  refine rl_val gw_none (ov_move rfl) rfl ?_
  refine rl_val gw_none (ov_mul rfl rfl (by omega)) rfl ?_
  refine rl_val gw_none (ov_add rfl rfl (by omega)) rfl ?_
  refine rl_val gw_none (ov_assign rfl) rfl ?_
  refine rl_nil ?_
  refine at_then ?_
  refine ct_ret ?_
  refine at_ret1 Try.results63 (ro_tmp rfl) (fun w1 hp => ?_)
  exact ⟨rfl, hp.ext0⟩

theorem l1Most_c (x y : Int) (w : World) : Calls Try.prog 62 ([.int .i64 x, .int .i64 y]).toArray w (fun e w' => e = .returned (.int .i64 (if x < y then y else x)) ∧ Ext w w') := by
  refine calls_ct Try.func62 Try.ntmps62 rfl rfl ?_
  refine ct_seq ?_
  refine ct_reg ?_
  refine rl_val gw_none (ov_assign rfl) rfl ?_
  refine rl_nil ?_
  refine at_then ?_
  refine ct_seq ?_
  refine ct_seq ?_
  refine ct_reg ?_
  refine rl_val gw_none (ov_move rfl) rfl ?_
  refine rl_val gw_none (ov_move rfl) rfl ?_
  refine rl_val gw_none (ov_gtr rfl rfl) rfl ?_
  refine rl_nil ?_
  refine at_then ?_
  first | refine ct_dec rfl (fun h1 => ?_) (fun h1 => ?_) | refine ct_ndec rfl (fun h1 => ?_) (fun h1 => ?_) | refine ct_eq rfl (fun h1 => ?_) (fun h1 => ?_) | refine ct_ne rfl (fun h1 => ?_) (fun h1 => ?_) | refine ct_not rfl (fun h1 => ?_) (fun h1 => ?_) | refine ct_cond rfl (fun h1 => ?_) (fun h1 => ?_)
  ·
    refine ct_seq ?_
    refine ct_reg ?_
    refine rl_val gw_none (ov_move rfl) rfl ?_
    refine rl_val gw_none (ov_assign rfl) rfl ?_
    refine rl_nil ?_
    refine at_then ?_
    refine ct_ret ?_
    refine at_then_ret ?_
    refine at_ret1 Try.results62 (ro_tmp rfl) (fun w1 hp => ?_)
    refine ⟨?_, hp.ext0⟩
    first | (rw [if_pos (by omega)]; done) | (rw [if_neg (by omega)]; done) | (rw [show (if x < y then y else x) = y from by split <;> omega]; done)
  ·
    refine ct_skip ?_
    refine at_then ?_
    refine ct_seq ?_
    refine ct_reg ?_
    refine rl_val gw_none (ov_move rfl) rfl ?_
    refine rl_val gw_none (ov_assign rfl) rfl ?_
    refine rl_nil ?_
    refine at_then ?_
    refine ct_ret ?_
    refine at_ret1 Try.results62 (ro_tmp rfl) (fun w1 hp => ?_)
    refine ⟨?_, hp.ext0⟩
    first | (rw [if_pos (by omega)]; done) | (rw [if_neg (by omega)]; done) | (rw [show (if x < y then y else x) = y from by split <;> omega]; done)
end Go.Proofs.Ytacaoicpmhdioaa
