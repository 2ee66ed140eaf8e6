import Derived.Test.YtgnnlgmeagipjaaTi
import Derived.KernelRfl
set_option linter.unusedVariables false
set_option linter.unusedSimpArgs false
namespace Go.Proofs.Ytgnnlgmeagipjaa
open Go Go.RowKit K
theorem iCutTowns_c (xs : List Road) (vxs : Value) (w : World) (hGxs : ∀ y ∈ xs, GRoad y) (hsxs : SR w 3 vxs xs.length (flat encRoad xs)) : Calls Try.prog 35 ([vxs]).toArray w (fun e w' => RetSl 3 1 (ints (ctL xs)) ((ctL xs).length) (fun s => .tuple #[s, .bool (roadsB xs)]) w e w') := by
  obtain ⟨axs, capxs, rfl, hcapxs, hmaxxs⟩ := hsxs.slice
  have hlenxs := hsxs.len_le
  refine calls_ct Try.func35 Try.ntmps35 rfl rfl ?_
  refine ct_seq ?_
  refine ct_reg ?_
  refine rl_val gw_none (ov_assign rfl) rfl ?_
  refine rl_val gw_none (ov_assign rfl) rfl ?_
  refine rl_nil ?_
  refine at_then ?_
  refine ct_seq ?_
  refine ct_seq ?_
  refine ct_reg ?_
  refine rl_val gw_none (ov_move rfl) rfl ?_
  refine rl_callv gw_none goes37 rfl (fun w1 hp => iAreRoads_c xs _ _ (hsxs.ext hp.ext0)) rfl ?_
  refine rl_val gw_none (ov_not rfl) rfl ?_
  refine rl_nil ?_
  refine at_then ?_
  first | refine ct_dec rfl (fun h1 => ?_) (fun h1 => ?_) | refine ct_ndec rfl (fun h1 => ?_) (fun h1 => ?_) | refine ct_eq rfl (fun h1 => ?_) (fun h1 => ?_) | refine ct_ne rfl (fun h1 => ?_) (fun h1 => ?_) | refine ct_not rfl (fun h1 => ?_) (fun h1 => ?_) | refine ct_cond rfl (fun h1 => ?_) (fun h1 => ?_)
  ·
    refine ct_seq ?_
    refine ct_reg ?_
    refine rl_val gw_none (ov_assign rfl) rfl ?_
    refine rl_val gw_none (ov_assign rfl) rfl ?_
    refine rl_nil ?_
    refine at_then ?_
    refine ct_ret ?_
    refine at_then_ret ?_
    refine at_ret2 Try.results35 (ro_tmp rfl) (ro_tmp rfl) (fun w1 hp => ?_)
    first | (rw [show ctL xs = acc from (ctL_yes hrB).trans hacc.symm, hrB]; exact RetSl.own 999 hp rfl hsl) | (have hb : roadsB xs = false := (by simpa [roadsB] using h1); rw [ctL_no hb, hb]; first | exact RetSl.nil hp.ext0 | exact RetSl.lit 0 hp rfl rfl (by decide))
  ·
    have hrB : roadsB xs = true := by simpa [roadsB] using h1
    have hR := roads_ok hrB
    have hok := hR.1
    have hwl := ways_len (-1) xs
    have hct : cutT.length = 7 := rfl
    refine ct_skip ?_
    refine at_then ?_
    refine ct_seq ?_
    refine ct_reg ?_
    refine rl_val gw_none (ov_move rfl) rfl ?_
    refine rl_callv gw_none goes47 rfl (fun w1 hp => waysOf_c xs (-1) _ _ (by unfold In64; omega) hok (hsxs.ext hp.ext0)) rfl ?_
    refine rl_val gw_none (ov_indexa Try.underlying72 ag71 rfl rfl (0) (by omega) (by omega)) rfl ?_
    refine rl_alloc ze71 rfl (fun N1 => ?_)
    refine rl_store [] sz71 rfl rfl (rowSize hwl (by omega)) (rowCell _ _) rfl (Nat.le_of_ble_eq_true rfl) ?_
    refine rl_mem (fun _ hq => hq.cong (congrArg (fun x => (_, _, x) :: _) (putRow _ 0))) ?_
    refine rl_nil ?_
    refine at_then ?_
    refine ct_seq ?_
    refine ct_reg ?_
    refine rl_val gw_none (ov_assign rfl) rfl ?_
    refine rl_nil ?_
    refine at_then ?_
    refine ct_seq ?_
    refine ct_seq ?_
    refine ct_reg ?_
    refine rl_val gw_none (ov_assign rfl) rfl ?_
    refine rl_nil ?_
    refine at_then ?_
    refine ct_block ?_
    refine ct_loopR (ι := Nat × Option Nat × Nat × List Value × List Int) (fun p0 => [(5, sv p0.2.1 p0.2.2.2.2.length p0.2.2.1), (6, .int .i64 ((p0.1 : Int) + 1))]) [(0, _), (2, _), (3, _), (4, _)] (fun p0 => (p0.2.1, 3, ints p0.2.2.2.2 ++ p0.2.2.2.1) :: _) (fun p0 => p0.1 ≤ cutT.length ∧ p0.2.2.2.2 = selL (cutP xs) (fun x => x) cutT p0.1 ∧ Sl 1 p0.2.1 p0.2.2.2.2.length p0.2.2.1 (ints p0.2.2.2.2) p0.2.2.2.1) (fun p0 => cutT.length - p0.1) ((0, none, 0, [], [])) (Sub.cons rfl (Sub.cons rfl (Sub.cons rfl (Sub.cons rfl Sub.nil)))) (fun _ hq => hq.nil 3) (by dsimp only; (repeat' (first | exact Sub.nil | refine Sub.cons ?_ ?_)); all_goals (first | rfl | exact lkInt rfl (by omega))) ⟨Nat.zero_le _, selL_zero _ _ _, Sl.nil0 _⟩ (fun p0 hp0 => ?_)
    obtain ⟨k, bo, cap, pad, acc⟩ := p0
    obtain ⟨hk, hacc, hsl⟩ := hp0
    dsimp only at hk hacc hsl
    have hal := selL_len hacc
    refine ct_seq ?_
    refine ct_seq ?_
    refine ct_reg ?_
    refine rl_val gw_none (ov_move rfl) rfl ?_
    refine rl_val gw_none (ov_lss rfl rfl) rfl ?_
    refine rl_nil ?_
    refine at_then ?_
    first | refine ct_dec rfl (fun h2 => ?_) (fun h2 => ?_) | refine ct_ndec rfl (fun h2 => ?_) (fun h2 => ?_) | refine ct_eq rfl (fun h2 => ?_) (fun h2 => ?_) | refine ct_ne rfl (fun h2 => ?_) (fun h2 => ?_) | refine ct_not rfl (fun h2 => ?_) (fun h2 => ?_) | refine ct_cond rfl (fun h2 => ?_) (fun h2 => ?_)
    ·
      have hk2 : k < cutT.length := by omega
      have hx := cutT_at hk2
      have hk7 : k < 7 := by omega
      have hwk := ways_len ((k : Int) + 1) xs
      try dsimp only at *
      refine ct_skip ?_
      refine at_then ?_
      refine ct_seq ?_
      refine ct_block ?_
      refine ct_seq ?_
      refine ct_reg ?_
      refine rl_val gw_none (ov_move rfl) rfl ?_
      refine rl_val gw_none (ov_move rfl) rfl ?_
      refine rl_callv gw_none goes47 rfl (fun w1 hp => waysOf_c xs ((k : Int) + 1) _ _ (by unfold In64; omega) hok (hsxs.ext hp.ext0)) rfl ?_
      refine rl_val gw_none (ov_indexa Try.underlying72 ag71 rfl rfl (0) (by omega) (by omega)) rfl ?_
      refine rl_alloc ze71 rfl (fun N2 => ?_)
      refine rl_store [] sz71 rfl rfl (rowSize hwk (by omega)) (rowCell _ _) rfl (Nat.le_of_ble_eq_true rfl) ?_
      refine rl_mem (fun _ hq => hq.cong (congrArg (fun x => (_, _, x) :: _) (putRow _ 0))) ?_
      refine rl_nil ?_
      refine at_then ?_
      refine ct_seq ?_
      refine ct_reg ?_
      refine rl_val gw_none (ov_assign rfl) rfl ?_
      refine rl_nil ?_
      refine at_then ?_
      refine ct_seq ?_
      refine ct_seq ?_
      refine ct_reg ?_
      refine rl_val gw_none (ov_loadall 2 ag71 rfl rfl (by rw [ints_length]; exact row_len hwl (by omega))) rfl ?_
      refine rl_val gw_none (ov_move rfl) rfl ?_
      refine rl_nil ?_
      refine at_then ?_
      refine ct_block ?_
      refine ct_loopR (ι := Nat) (fun j => [(8, .bool (cutK (ways (-1) xs) (ways ((k : Int) + 1) xs) ((k : Int) + 1) j)), (26, .int .i64 j)]) [(0, _), (2, _), (3, _), (4, _), (5, _), (6, _), (7, _), (25, _)] (fun _ => _) (fun j => j ≤ 8) (fun j => 8 - j) (0) (Sub.cons rfl (Sub.cons rfl (Sub.cons rfl (Sub.cons rfl (Sub.cons rfl (Sub.cons rfl (Sub.cons rfl (Sub.cons rfl Sub.nil)))))))) (fun _ hq => hq) (by (repeat' (first | exact Sub.nil | refine Sub.cons ?_ ?_)); all_goals (first | rfl | exact lkInt rfl (by omega) | exact lkB rfl rfl)) (by first | exact True.intro | omega | (dsimp only; omega) | (dsimp only at *; omega)) (fun j hj => ?_)
      refine ct_seq ?_
      refine ct_reg ?_
      refine rl_val gw_none (ov_lss rfl rfl) rfl ?_
      refine rl_nil ?_
      refine at_then ?_
      refine ct_seq ?_
      first | refine ct_dec rfl (fun h3 => ?_) (fun h3 => ?_) | refine ct_ndec rfl (fun h3 => ?_) (fun h3 => ?_) | refine ct_eq rfl (fun h3 => ?_) (fun h3 => ?_) | refine ct_ne rfl (fun h3 => ?_) (fun h3 => ?_) | refine ct_not rfl (fun h3 => ?_) (fun h3 => ?_) | refine ct_cond rfl (fun h3 => ?_) (fun h3 => ?_)
      ·
        have hj8 : j < 8 := by omega
        refine ct_skip ?_
        refine at_then ?_
        refine ct_seq ?_
        refine ct_block ?_
        refine ct_seq ?_
        refine ct_reg ?_
        refine rl_val gw_none (ov_move rfl) rfl ?_
        refine rl_val gw_none (ov_indexv Try.underlying71 sc3 sz3 rfl rfl (j) (by omega) (by omega) (rowAt2 hwl (by omega) hj8)) rfl ?_
        refine rl_val gw_none (ov_assign rfl) rfl ?_
        refine rl_val gw_none (ov_assign rfl) rfl ?_
        refine rl_nil ?_
        refine at_then ?_
        refine ct_reg ?_
        refine rl_val gw_none (ov_move rfl) rfl ?_
        refine rl_val gw_none (ov_move rfl) rfl ?_
        refine rl_split (t := 31) rfl (fun g1 => ?_) (fun g1 => ?_)
        ·
          have g1' := g1
          try simp only [Bool.not_eq_true', Bool.not_eq_false', Bool.not_not, decide_eq_true_eq, decide_eq_false_iff_not, beq_iff_eq, beq_eq_false_iff_ne, bne_iff_ne, bne_eq_false_iff_eq, Bool.and_eq_true, Bool.or_eq_true, Bool.and_eq_false_iff, Bool.or_eq_false_iff, inB] at g1'
          refine rl_skip (gw_not rfl rfl g1) rfl ?_
          refine rl_skip (gw_not rfl rfl g1) rfl ?_
          refine rl_skip (gw_not rfl rfl g1) rfl ?_
          refine rl_skip (gw_not rfl rfl g1) rfl ?_
          refine rl_skip (gw_undef rfl rfl) rfl ?_
          refine rl_skip (gw_undef rfl rfl) rfl ?_
          refine rl_skip (gw_not rfl rfl g1) rfl ?_
          refine rl_skip (gw_not rfl rfl g1) rfl ?_
          refine rl_skip (gw_undef rfl rfl) rfl ?_
          refine rl_skip (gw_undef rfl rfl) rfl ?_
          refine rl_skip (gw_undef rfl rfl) rfl ?_
          refine rl_skip (gw_undef rfl rfl) rfl ?_
          refine rl_skip (gw_not rfl rfl g1) rfl ?_
          refine rl_val gw_none (ov_pick_t rfl g1 rfl) rfl ?_
          refine rl_val gw_none (ov_assign rfl) rfl ?_
          refine rl_nil ?_
          refine at_block ?_
          refine at_then ?_
          refine ct_reg ?_
          refine rl_val gw_none (ov_add rfl rfl (by omega)) rfl ?_
          refine rl_val gw_none (ov_move rfl) rfl ?_
          refine rl_nil ?_
          exact at_backR (j + 1) (by first | exact True.intro | omega | (dsimp only; omega) | (dsimp only at *; omega)) (by first | exact True.intro | omega | (dsimp only; omega) | (dsimp only at *; omega)) (by (repeat' (first | exact Sub.nil | refine Sub.cons ?_ ?_)); all_goals (first | rfl | exact lkInt rfl (by omega) | exact lkB rfl (by first | (rw [cutK_succ, g1]; rfl) | (rw [cutK_succ, g1, cutQ, g2]; rfl) | (rw [cutK_succ, g1, cutQ, g2, g3]; rfl) | (simp only [cutK_succ, cutQ, g1, g2, g3, Bool.false_or, Bool.true_and, Bool.false_and, Bool.and_false]; done)))) (Sub.cons rfl (Sub.cons rfl (Sub.cons rfl (Sub.cons rfl (Sub.cons rfl (Sub.cons rfl (Sub.cons rfl (Sub.cons rfl Sub.nil)))))))) (fun _ hq => hq)
        ·
          have g1' := g1
          try simp only [Bool.not_eq_true', Bool.not_eq_false', Bool.not_not, decide_eq_true_eq, decide_eq_false_iff_not, beq_iff_eq, beq_eq_false_iff_ne, bne_iff_ne, bne_eq_false_iff_eq, Bool.and_eq_true, Bool.or_eq_true, Bool.and_eq_false_iff, Bool.or_eq_false_iff, inB] at g1'
          refine rl_val (gw_some rfl rfl g1) (ov_move rfl) rfl ?_
          refine rl_val (gw_some rfl rfl g1) (ov_move rfl) rfl ?_
          refine rl_val (gw_some rfl rfl g1) (ov_neq rfl rfl) rfl ?_
          refine rl_val (gw_some rfl rfl g1) (ov_move rfl) rfl ?_
          refine rl_split (t := 35) rfl (fun g2 => ?_) (fun g2 => ?_)
          ·
            have g2' := g2
            try simp only [Bool.not_eq_true', Bool.not_eq_false', Bool.not_not, decide_eq_true_eq, decide_eq_false_iff_not, beq_iff_eq, beq_eq_false_iff_ne, bne_iff_ne, bne_eq_false_iff_eq, Bool.and_eq_true, Bool.or_eq_true, Bool.and_eq_false_iff, Bool.or_eq_false_iff, inB] at g2'
            refine rl_val (gw_some rfl rfl g2) (ov_move rfl) rfl ?_
            refine rl_val (gw_some rfl rfl g2) (ov_lss rfl rfl) rfl ?_
            refine rl_val (gw_some rfl rfl g1) (ov_pick_t rfl g2 rfl) rfl ?_
            refine rl_val (gw_some rfl rfl g1) (ov_move rfl) rfl ?_
            refine rl_split (t := 39) rfl (fun g3 => ?_) (fun g3 => ?_)
            ·
              have g3' := g3
              try simp only [Bool.not_eq_true', Bool.not_eq_false', Bool.not_not, decide_eq_true_eq, decide_eq_false_iff_not, beq_iff_eq, beq_eq_false_iff_ne, bne_iff_ne, bne_eq_false_iff_eq, Bool.and_eq_true, Bool.or_eq_true, Bool.and_eq_false_iff, Bool.or_eq_false_iff, inB] at g3'
              refine rl_val (gw_some rfl rfl g3) (ov_move rfl) rfl ?_
              first | refine rl_val (gw_some rfl rfl g3) (ov_ixa Try.underlying71 sz3 rfl rfl _ rfl (by omega)) rfl ?_ | refine rl_val (gw_some rfl rfl g3) (ov_ixa Try.underlying71 sz3 rfl rfl (0) (by omega) (by omega)) rfl ?_ | refine rl_val (gw_some rfl rfl g3) (ov_ixa Try.underlying71 sz3 rfl rfl (j) (by omega) (by omega)) rfl ?_
              refine rl_val (gw_some rfl rfl g3) (ov_load 0 sc3 rfl rfl (rowAt3 hwk (by omega) hj8)) rfl ?_
              refine rl_val (gw_some rfl rfl g3) (ov_geq rfl rfl) rfl ?_
              refine rl_val (gw_some rfl rfl g1) (ov_pick_t rfl g3 rfl) rfl ?_
              refine rl_val gw_none (ov_pick_f rfl g1 rfl) rfl ?_
              refine rl_val gw_none (ov_assign rfl) rfl ?_
              refine rl_nil ?_
              refine at_block ?_
              refine at_then ?_
              refine ct_reg ?_
              refine rl_val gw_none (ov_add rfl rfl (by omega)) rfl ?_
              refine rl_val gw_none (ov_move rfl) rfl ?_
              refine rl_nil ?_
              exact at_backR (j + 1) (by first | exact True.intro | omega | (dsimp only; omega) | (dsimp only at *; omega)) (by first | exact True.intro | omega | (dsimp only; omega) | (dsimp only at *; omega)) (by (repeat' (first | exact Sub.nil | refine Sub.cons ?_ ?_)); all_goals (first | rfl | exact lkInt rfl (by omega) | exact lkB rfl (by first | (rw [cutK_succ, g1]; rfl) | (rw [cutK_succ, g1, cutQ, g2]; rfl) | (rw [cutK_succ, g1, cutQ, g2, g3]; rfl) | (simp only [cutK_succ, cutQ, g1, g2, g3, Bool.false_or, Bool.true_and, Bool.false_and, Bool.and_false]; done)))) (Sub.cons rfl (Sub.cons rfl (Sub.cons rfl (Sub.cons rfl (Sub.cons rfl (Sub.cons rfl (Sub.cons rfl (Sub.cons rfl Sub.nil)))))))) (fun _ hq => hq)
            ·
              have g3' := g3
              try simp only [Bool.not_eq_true', Bool.not_eq_false', Bool.not_not, decide_eq_true_eq, decide_eq_false_iff_not, beq_iff_eq, beq_eq_false_iff_ne, bne_iff_ne, bne_eq_false_iff_eq, Bool.and_eq_true, Bool.or_eq_true, Bool.and_eq_false_iff, Bool.or_eq_false_iff, inB] at g3'
              refine rl_skip (gw_not rfl rfl g3) rfl ?_
              refine rl_skip (gw_not rfl rfl g3) rfl ?_
              refine rl_skip (gw_not rfl rfl g3) rfl ?_
              refine rl_skip (gw_not rfl rfl g3) rfl ?_
              refine rl_val (gw_some rfl rfl g1) (ov_pick_f rfl g3 rfl) rfl ?_
              refine rl_val gw_none (ov_pick_f rfl g1 rfl) rfl ?_
              refine rl_val gw_none (ov_assign rfl) rfl ?_
              refine rl_nil ?_
              refine at_block ?_
              refine at_then ?_
              refine ct_reg ?_
              refine rl_val gw_none (ov_add rfl rfl (by omega)) rfl ?_
              refine rl_val gw_none (ov_move rfl) rfl ?_
              refine rl_nil ?_
              exact at_backR (j + 1) (by first | exact True.intro | omega | (dsimp only; omega) | (dsimp only at *; omega)) (by first | exact True.intro | omega | (dsimp only; omega) | (dsimp only at *; omega)) (by (repeat' (first | exact Sub.nil | refine Sub.cons ?_ ?_)); all_goals (first | rfl | exact lkInt rfl (by omega) | exact lkB rfl (by first | (rw [cutK_succ, g1]; rfl) | (rw [cutK_succ, g1, cutQ, g2]; rfl) | (rw [cutK_succ, g1, cutQ, g2, g3]; rfl) | (simp only [cutK_succ, cutQ, g1, g2, g3, Bool.false_or, Bool.true_and, Bool.false_and, Bool.and_false]; done)))) (Sub.cons rfl (Sub.cons rfl (Sub.cons rfl (Sub.cons rfl (Sub.cons rfl (Sub.cons rfl (Sub.cons rfl (Sub.cons rfl Sub.nil)))))))) (fun _ hq => hq)
          ·
            have g2' := g2
            try simp only [Bool.not_eq_true', Bool.not_eq_false', Bool.not_not, decide_eq_true_eq, decide_eq_false_iff_not, beq_iff_eq, beq_eq_false_iff_ne, bne_iff_ne, bne_eq_false_iff_eq, Bool.and_eq_true, Bool.or_eq_true, Bool.and_eq_false_iff, Bool.or_eq_false_iff, inB] at g2'
            refine rl_skip (gw_not rfl rfl g2) rfl ?_
            refine rl_skip (gw_not rfl rfl g2) rfl ?_
            refine rl_val (gw_some rfl rfl g1) (ov_pick_f rfl g2 rfl) rfl ?_
            refine rl_val (gw_some rfl rfl g1) (ov_move rfl) rfl ?_
            refine rl_skip (gw_not rfl rfl rfl) rfl ?_
            refine rl_skip (gw_not rfl rfl rfl) rfl ?_
            refine rl_skip (gw_not rfl rfl rfl) rfl ?_
            refine rl_skip (gw_not rfl rfl rfl) rfl ?_
            refine rl_val (gw_some rfl rfl g1) (ov_pick_f rfl rfl rfl) rfl ?_
            refine rl_val gw_none (ov_pick_f rfl g1 rfl) rfl ?_
            refine rl_val gw_none (ov_assign rfl) rfl ?_
            refine rl_nil ?_
            refine at_block ?_
            refine at_then ?_
            refine ct_reg ?_
            refine rl_val gw_none (ov_add rfl rfl (by omega)) rfl ?_
            refine rl_val gw_none (ov_move rfl) rfl ?_
            refine rl_nil ?_
            exact at_backR (j + 1) (by first | exact True.intro | omega | (dsimp only; omega) | (dsimp only at *; omega)) (by first | exact True.intro | omega | (dsimp only; omega) | (dsimp only at *; omega)) (by (repeat' (first | exact Sub.nil | refine Sub.cons ?_ ?_)); all_goals (first | rfl | exact lkInt rfl (by omega) | exact lkB rfl (by first | (rw [cutK_succ, g1]; rfl) | (rw [cutK_succ, g1, cutQ, g2]; rfl) | (rw [cutK_succ, g1, cutQ, g2, g3]; rfl) | (simp only [cutK_succ, cutQ, g1, g2, g3, Bool.false_or, Bool.true_and, Bool.false_and, Bool.and_false]; done)))) (Sub.cons rfl (Sub.cons rfl (Sub.cons rfl (Sub.cons rfl (Sub.cons rfl (Sub.cons rfl (Sub.cons rfl (Sub.cons rfl Sub.nil)))))))) (fun _ hq => hq)
      ·
        have hje : j = 8 := by omega
        subst hje
        refine ct_exit ?_
        refine at_then_exit ?_
        refine at_then_exit ?_
        refine at_block_hit ?_
        refine at_then ?_
        refine ct_seq ?_
        refine ct_reg ?_
        refine rl_val gw_none (ov_move rfl) rfl ?_
        refine rl_nil ?_
        refine at_then ?_
        first | refine ct_dec rfl (fun h4 => ?_) (fun h4 => ?_) | refine ct_ndec rfl (fun h4 => ?_) (fun h4 => ?_) | refine ct_eq rfl (fun h4 => ?_) (fun h4 => ?_) | refine ct_ne rfl (fun h4 => ?_) (fun h4 => ?_) | refine ct_not rfl (fun h4 => ?_) (fun h4 => ?_) | refine ct_cond rfl (fun h4 => ?_) (fun h4 => ?_)
        ·
          refine ct_reg ?_
          refine rl_val gw_none (ov_move rfl) rfl ?_
          refine rl_val gw_none (ov_move rfl) rfl ?_
          refine rl_bslice Try.underlying39 ze3 sz3 rfl rfl rfl rfl rfl rfl (fun N3 => ?_)
          refine rl_appT (ints) (ints_append) [_, _] (acc := acc) Try.underlying39 ze3 sz3 rfl rfl by3 rfl rfl rfl hsl ([((k : Int) + 1)]) rfl (fun w1 hp => hp.sr1 0 rfl rfl (by decide)) (ints_one _) (by unfold maxLen; omega) (by omega) rfl (fun boq1 capq1 padq1 hsq1 => ?_)
          refine rl_val gw_none (ov_assign rfl) rfl ?_
          refine rl_nil ?_
          refine at_block ?_
          refine at_then ?_
          refine ct_reg ?_
          refine rl_val gw_none (ov_move rfl) rfl ?_
          refine rl_val gw_none (ov_add rfl rfl (by omega)) rfl ?_
          refine rl_val gw_none (ov_assign rfl) rfl ?_
          refine rl_nil ?_
          have hpx := selL_yes (p := cutP xs) (f := fun x => x) hacc hx (by unfold cutP; simpa using h4)
          exact at_backR (k + 1, boq1, capq1, padq1, acc ++ [((k : Int) + 1)]) ⟨hk2, hpx, hsq1⟩ (by dsimp only at *; omega) (by dsimp only; (repeat' (first | exact Sub.nil | refine Sub.cons ?_ ?_)); all_goals (first | rfl | exact lkInt rfl (by omega))) (Sub.cons rfl (Sub.cons rfl (Sub.cons rfl (Sub.cons rfl Sub.nil)))) (fun _ hq => hq.drop.drop)
        ·
          refine ct_skip ?_
          refine at_block ?_
          refine at_then ?_
          refine ct_reg ?_
          refine rl_val gw_none (ov_move rfl) rfl ?_
          refine rl_val gw_none (ov_add rfl rfl (by omega)) rfl ?_
          refine rl_val gw_none (ov_assign rfl) rfl ?_
          refine rl_nil ?_
          have hpx := selL_no (p := cutP xs) (f := fun x => x) hacc hx (by unfold cutP; simpa using h4)
          exact at_backR (k + 1, bo, cap, pad, acc) ⟨hk2, hpx, hsl⟩ (by dsimp only at *; omega) (by dsimp only; (repeat' (first | exact Sub.nil | refine Sub.cons ?_ ?_)); all_goals (first | rfl | exact lkInt rfl (by omega))) (Sub.cons rfl (Sub.cons rfl (Sub.cons rfl (Sub.cons rfl Sub.nil)))) (fun _ hq => hq.drop)
    ·
      have hke : k = cutT.length := by omega
      subst hke
      refine ct_exit ?_
      refine at_then_exit ?_
      refine at_then_exit ?_
      refine at_block_hit ?_
      refine at_then ?_
      refine ct_seq ?_
      refine ct_reg ?_
      refine rl_val gw_none (ov_move rfl) rfl ?_
      refine rl_val gw_none (ov_assign rfl) rfl ?_
      refine rl_val gw_none (ov_assign rfl) rfl ?_
      refine rl_nil ?_
      refine at_then ?_
      refine ct_ret ?_
      refine at_ret2 Try.results35 (ro_tmp rfl) (ro_tmp rfl) (fun w1 hp => ?_)
      first | (rw [show ctL xs = acc from (ctL_yes hrB).trans hacc.symm, hrB]; exact RetSl.own 0 hp rfl hsl) | (have hb : roadsB xs = false := (by simpa [roadsB] using h1); rw [ctL_no hb, hb]; first | exact RetSl.nil hp.ext0 | exact RetSl.lit 0 hp rfl rfl (by decide))

theorem sCutTowns_c (xs : List Road) (vxs : Value) (w : World) (hGxs : ∀ y ∈ xs, GRoad y) (hsxs : SR w 3 vxs xs.length (flat encRoad xs)) : Calls Try.prog 36 ([vxs]).toArray w (fun e w' => RetSl 3 1 (ints (ctL xs)) ((ctL xs).length) (fun s => .tuple #[s, .bool (roadsB xs)]) w e w') := by
  obtain ⟨axs, capxs, rfl, hcapxs, hmaxxs⟩ := hsxs.slice
  have hlenxs := hsxs.len_le
  refine calls_ct Try.func36 Try.ntmps36 rfl rfl ?_
  refine ct_seq ?_
  refine ct_reg ?_
  refine rl_val gw_none (ov_assign rfl) rfl ?_
  refine rl_val gw_none (ov_assign rfl) rfl ?_
  refine rl_nil ?_
  refine at_then ?_
  refine ct_seq ?_
  refine ct_reg ?_
  refine rl_bslice Try.underlying39 ze3 sz3 rfl rfl rfl rfl rfl rfl (fun N1 => ?_)
  refine rl_val gw_none (ov_assign rfl) rfl ?_
  refine rl_nil ?_
  refine at_then ?_
  refine ct_seq ?_
  refine ct_seq ?_
  refine ct_reg ?_
  refine rl_val gw_none (ov_move rfl) rfl ?_
  refine rl_callv gw_none goes40 rfl (fun w1 hp => l24Roads_c xs _ _ (hsxs.ext hp.ext0)) rfl ?_
  refine rl_val gw_none (ov_not rfl) rfl ?_
  refine rl_nil ?_
  refine at_then ?_
  first | refine ct_dec rfl (fun h1 => ?_) (fun h1 => ?_) | refine ct_ndec rfl (fun h1 => ?_) (fun h1 => ?_) | refine ct_eq rfl (fun h1 => ?_) (fun h1 => ?_) | refine ct_ne rfl (fun h1 => ?_) (fun h1 => ?_) | refine ct_not rfl (fun h1 => ?_) (fun h1 => ?_) | refine ct_cond rfl (fun h1 => ?_) (fun h1 => ?_)
  ·
    refine ct_seq ?_
    refine ct_reg ?_
    refine rl_val gw_none (ov_move rfl) rfl ?_
    refine rl_val gw_none (ov_assign rfl) rfl ?_
    refine rl_val gw_none (ov_assign rfl) rfl ?_
    refine rl_nil ?_
    refine at_then ?_
    refine ct_ret ?_
    refine at_then_ret ?_
    refine at_ret2 Try.results36 (ro_tmp rfl) (ro_tmp rfl) (fun w1 hp => ?_)
    first | (rw [show ctL xs = acc from (ctL_yes hrB).trans hacc.symm, hrB]; exact RetSl.own 0 hp rfl hsl) | (have hb : roadsB xs = false := (by simpa [roadsB] using h1); rw [ctL_no hb, hb]; first | exact RetSl.nil hp.ext0 | exact RetSl.lit 0 hp rfl rfl (by decide))
  ·
    have hrB : roadsB xs = true := by simpa [roadsB] using h1
    have hR := roads_ok hrB
    have hok := hR.1
    have hwl := ways_len (-1) xs
    have hct : cutT.length = 7 := rfl
    refine ct_skip ?_
    refine at_then ?_
    refine ct_seq ?_
    refine ct_reg ?_
    refine rl_val gw_none (ov_move rfl) rfl ?_
    refine rl_callsl (ι := Nat × List Value) (fun i bo => sv bo 8 i.1) (fun i => ints (bfE (-1) xs 0) ++ i.2) (fun i bo => Sl 1 bo 8 i.1 (ints (bfE (-1) xs 0)) i.2) goes62 rfl (fun w1 hp => l24Ways_c xs 0 (-1) 0 _ _ (by unfold In64; omega) rfl (by omega) hok (hsxs.ext hp.ext0)) rfl (fun iwy bowy hswy => ?_)
    obtain ⟨bwy, rfl⟩ := slSome hswy (by omega)
    refine rl_val gw_none (ov_assign rfl) rfl ?_
    refine rl_nil ?_
    refine at_then ?_
    refine ct_seq ?_
    refine ct_seq ?_
    refine ct_reg ?_
    refine rl_val gw_none (ov_assign rfl) rfl ?_
    refine rl_nil ?_
    refine at_then ?_
    refine ct_block ?_
    refine ct_loopR (ι := Nat × Option Nat × Nat × List Value × List Int) (fun p0 => [(4, sv p0.2.1 p0.2.2.2.2.length p0.2.2.1), (6, .int .i64 ((p0.1 : Int) + 1))]) [(0, _), (2, _), (3, _), (5, _)] (fun p0 => _ :: (p0.2.1, 3, ints p0.2.2.2.2 ++ p0.2.2.2.1) :: _) (fun p0 => p0.1 ≤ cutT.length ∧ p0.2.2.2.2 = selL (cutP xs) (fun x => x) cutT p0.1 ∧ Sl 1 p0.2.1 p0.2.2.2.2.length p0.2.2.1 (ints p0.2.2.2.2) p0.2.2.2.1) (fun p0 => cutT.length - p0.1) ((0, some N1, 0, [], [])) (Sub.cons rfl (Sub.cons rfl (Sub.cons rfl (Sub.cons rfl Sub.nil)))) (fun _ hq => hq) (by dsimp only; (repeat' (first | exact Sub.nil | refine Sub.cons ?_ ?_)); all_goals (first | rfl | exact lkInt rfl (by omega))) ⟨Nat.zero_le _, selL_zero _ _ _, Sl.lit rfl (Nat.zero_le _)⟩ (fun p0 hp0 => ?_)
    obtain ⟨k, bo, cap, pad, acc⟩ := p0
    obtain ⟨hk, hacc, hsl⟩ := hp0
    dsimp only at hk hacc hsl
    have hal := selL_len hacc
    refine ct_seq ?_
    refine ct_seq ?_
    refine ct_reg ?_
    refine rl_val gw_none (ov_move rfl) rfl ?_
    refine rl_val gw_none (ov_lss rfl rfl) rfl ?_
    refine rl_nil ?_
    refine at_then ?_
    first | refine ct_dec rfl (fun h2 => ?_) (fun h2 => ?_) | refine ct_ndec rfl (fun h2 => ?_) (fun h2 => ?_) | refine ct_eq rfl (fun h2 => ?_) (fun h2 => ?_) | refine ct_ne rfl (fun h2 => ?_) (fun h2 => ?_) | refine ct_not rfl (fun h2 => ?_) (fun h2 => ?_) | refine ct_cond rfl (fun h2 => ?_) (fun h2 => ?_)
    ·
      have hk2 : k < cutT.length := by omega
      have hx := cutT_at hk2
      have hk7 : k < 7 := by omega
      have hwk := ways_len ((k : Int) + 1) xs
      try dsimp only at *
      refine ct_skip ?_
      refine at_then ?_
      refine ct_seq ?_
      refine ct_block ?_
      refine ct_seq ?_
      refine ct_reg ?_
      refine rl_val gw_none (ov_move rfl) rfl ?_
      refine rl_val gw_none (ov_move rfl) rfl ?_
      refine rl_callsl (ι := Nat × List Value) (fun i bo => sv bo 8 i.1) (fun i => ints (bfE ((k : Int) + 1) xs 0) ++ i.2) (fun i bo => Sl 1 bo 8 i.1 (ints (bfE ((k : Int) + 1) xs 0)) i.2) goes62 rfl (fun w1 hp => l24Ways_c xs 0 ((k : Int) + 1) 0 _ _ (by unfold In64; omega) rfl (by omega) hok (hsxs.ext hp.ext0)) rfl (fun ism bosm hssm => ?_)
      obtain ⟨bsm, rfl⟩ := slSome hssm (by omega)
      refine rl_val gw_none (ov_assign rfl) rfl ?_
      refine rl_nil ?_
      refine at_then ?_
      refine ct_seq ?_
      refine ct_reg ?_
      refine rl_val gw_none (ov_assign rfl) rfl ?_
      refine rl_nil ?_
      refine at_then ?_
      refine ct_seq ?_
      refine ct_seq ?_
      refine ct_reg ?_
      refine rl_val gw_none (ov_assign rfl) rfl ?_
      refine rl_nil ?_
      refine at_then ?_
      refine ct_block ?_
      refine ct_loopR (ι := Nat) (fun j => [(8, .bool (cutK (ways (-1) xs) (ways ((k : Int) + 1) xs) ((k : Int) + 1) j)), (9, .int .i64 j)]) [(0, _), (2, _), (3, _), (4, _), (5, _), (6, _), (7, _)] (fun _ => _) (fun j => j ≤ 8) (fun j => 8 - j) (0) (Sub.cons rfl (Sub.cons rfl (Sub.cons rfl (Sub.cons rfl (Sub.cons rfl (Sub.cons rfl (Sub.cons rfl Sub.nil))))))) (fun _ hq => hq) (by (repeat' (first | exact Sub.nil | refine Sub.cons ?_ ?_)); all_goals (first | rfl | exact lkInt rfl (by omega) | exact lkB rfl rfl)) (by first | exact True.intro | omega | (dsimp only; omega) | (dsimp only at *; omega)) (fun j hj => ?_)
      refine ct_seq ?_
      refine ct_seq ?_
      refine ct_reg ?_
      refine rl_val gw_none (ov_move rfl) rfl ?_
      refine rl_val gw_none (ov_lss rfl rfl) rfl ?_
      refine rl_nil ?_
      refine at_then ?_
      first | refine ct_dec rfl (fun h3 => ?_) (fun h3 => ?_) | refine ct_ndec rfl (fun h3 => ?_) (fun h3 => ?_) | refine ct_eq rfl (fun h3 => ?_) (fun h3 => ?_) | refine ct_ne rfl (fun h3 => ?_) (fun h3 => ?_) | refine ct_not rfl (fun h3 => ?_) (fun h3 => ?_) | refine ct_cond rfl (fun h3 => ?_) (fun h3 => ?_)
      ·
        have hj8 : j < 8 := by omega
        refine ct_skip ?_
        refine at_then ?_
        refine ct_seq ?_
        refine ct_block ?_
        refine ct_reg ?_
        refine rl_val gw_none (ov_move rfl) rfl ?_
        refine rl_val gw_none (ov_move rfl) rfl ?_
        refine rl_split (t := 29) rfl (fun g1 => ?_) (fun g1 => ?_)
        ·
          have g1' := g1
          try simp only [Bool.not_eq_true', Bool.not_eq_false', Bool.not_not, decide_eq_true_eq, decide_eq_false_iff_not, beq_iff_eq, beq_eq_false_iff_ne, bne_iff_ne, bne_eq_false_iff_eq, Bool.and_eq_true, Bool.or_eq_true, Bool.and_eq_false_iff, Bool.or_eq_false_iff, inB] at g1'
          refine rl_skip (gw_not rfl rfl g1) rfl ?_
          refine rl_skip (gw_not rfl rfl g1) rfl ?_
          refine rl_skip (gw_not rfl rfl g1) rfl ?_
          refine rl_skip (gw_not rfl rfl g1) rfl ?_
          refine rl_skip (gw_undef rfl rfl) rfl ?_
          refine rl_skip (gw_undef rfl rfl) rfl ?_
          refine rl_skip (gw_undef rfl rfl) rfl ?_
          refine rl_skip (gw_undef rfl rfl) rfl ?_
          refine rl_skip (gw_undef rfl rfl) rfl ?_
          refine rl_skip (gw_not rfl rfl g1) rfl ?_
          refine rl_skip (gw_not rfl rfl g1) rfl ?_
          refine rl_skip (gw_undef rfl rfl) rfl ?_
          refine rl_skip (gw_undef rfl rfl) rfl ?_
          refine rl_skip (gw_undef rfl rfl) rfl ?_
          refine rl_skip (gw_undef rfl rfl) rfl ?_
          refine rl_skip (gw_undef rfl rfl) rfl ?_
          refine rl_skip (gw_not rfl rfl g1) rfl ?_
          refine rl_val gw_none (ov_pick_t rfl g1 rfl) rfl ?_
          refine rl_val gw_none (ov_assign rfl) rfl ?_
          refine rl_nil ?_
          refine at_block ?_
          refine at_then ?_
          refine ct_reg ?_
          refine rl_val gw_none (ov_move rfl) rfl ?_
          refine rl_val gw_none (ov_add rfl rfl (by omega)) rfl ?_
          refine rl_val gw_none (ov_assign rfl) rfl ?_
          refine rl_nil ?_
          exact at_backR (j + 1) (by first | exact True.intro | omega | (dsimp only; omega) | (dsimp only at *; omega)) (by first | exact True.intro | omega | (dsimp only; omega) | (dsimp only at *; omega)) (by (repeat' (first | exact Sub.nil | refine Sub.cons ?_ ?_)); all_goals (first | rfl | exact lkInt rfl (by omega) | exact lkB rfl (by first | (rw [cutK_succ, g1]; rfl) | (rw [cutK_succ, g1, cutQ, g2]; rfl) | (rw [cutK_succ, g1, cutQ, g2, g3]; rfl) | (simp only [cutK_succ, cutQ, g1, g2, g3, Bool.false_or, Bool.true_and, Bool.false_and, Bool.and_false]; done)))) (Sub.cons rfl (Sub.cons rfl (Sub.cons rfl (Sub.cons rfl (Sub.cons rfl (Sub.cons rfl (Sub.cons rfl Sub.nil))))))) (fun _ hq => hq)
        ·
          have g1' := g1
          try simp only [Bool.not_eq_true', Bool.not_eq_false', Bool.not_not, decide_eq_true_eq, decide_eq_false_iff_not, beq_iff_eq, beq_eq_false_iff_ne, bne_iff_ne, bne_eq_false_iff_eq, Bool.and_eq_true, Bool.or_eq_true, Bool.and_eq_false_iff, Bool.or_eq_false_iff, inB] at g1'
          refine rl_val (gw_some rfl rfl g1) (ov_move rfl) rfl ?_
          refine rl_val (gw_some rfl rfl g1) (ov_move rfl) rfl ?_
          refine rl_val (gw_some rfl rfl g1) (ov_neq rfl rfl) rfl ?_
          refine rl_val (gw_some rfl rfl g1) (ov_move rfl) rfl ?_
          refine rl_split (t := 33) rfl (fun g2 => ?_) (fun g2 => ?_)
          ·
            have g2' := g2
            try simp only [Bool.not_eq_true', Bool.not_eq_false', Bool.not_not, decide_eq_true_eq, decide_eq_false_iff_not, beq_iff_eq, beq_eq_false_iff_ne, bne_iff_ne, bne_eq_false_iff_eq, Bool.and_eq_true, Bool.or_eq_true, Bool.and_eq_false_iff, Bool.or_eq_false_iff, inB] at g2'
            refine rl_val (gw_some rfl rfl g2) (ov_move rfl) rfl ?_
            refine rl_val (gw_some rfl rfl g2) (ov_move rfl) rfl ?_
            first | refine rl_val (gw_some rfl rfl g2) (ov_ix Try.underlying39 sz3 rfl rfl _ rfl (by omega)) rfl ?_ | refine rl_val (gw_some rfl rfl g2) (ov_ix Try.underlying39 sz3 rfl rfl (j) (by omega) (by omega)) rfl ?_
            refine rl_val (gw_some rfl rfl g2) (ov_load 1 sc3 rfl rfl (bfAt hR (show 0 < 8 by omega) hj8 _)) rfl ?_
            refine rl_val (gw_some rfl rfl g2) (ov_lss rfl rfl) rfl ?_
            refine rl_val (gw_some rfl rfl g1) (ov_pick_t rfl g2 rfl) rfl ?_
            refine rl_val (gw_some rfl rfl g1) (ov_move rfl) rfl ?_
            refine rl_split (t := 40) rfl (fun g3 => ?_) (fun g3 => ?_)
            ·
              have g3' := g3
              try simp only [Bool.not_eq_true', Bool.not_eq_false', Bool.not_not, decide_eq_true_eq, decide_eq_false_iff_not, beq_iff_eq, beq_eq_false_iff_ne, bne_iff_ne, bne_eq_false_iff_eq, Bool.and_eq_true, Bool.or_eq_true, Bool.and_eq_false_iff, Bool.or_eq_false_iff, inB] at g3'
              refine rl_val (gw_some rfl rfl g3) (ov_move rfl) rfl ?_
              refine rl_val (gw_some rfl rfl g3) (ov_move rfl) rfl ?_
              first | refine rl_val (gw_some rfl rfl g3) (ov_ix Try.underlying39 sz3 rfl rfl _ rfl (by omega)) rfl ?_ | refine rl_val (gw_some rfl rfl g3) (ov_ix Try.underlying39 sz3 rfl rfl (j) (by omega) (by omega)) rfl ?_
              refine rl_val (gw_some rfl rfl g3) (ov_load 0 sc3 rfl rfl (bfAt hR (show 0 < 8 by omega) hj8 _)) rfl ?_
              refine rl_val (gw_some rfl rfl g3) (ov_geq rfl rfl) rfl ?_
              refine rl_val (gw_some rfl rfl g1) (ov_pick_t rfl g3 rfl) rfl ?_
              refine rl_val gw_none (ov_pick_f rfl g1 rfl) rfl ?_
              refine rl_val gw_none (ov_assign rfl) rfl ?_
              refine rl_nil ?_
              refine at_block ?_
              refine at_then ?_
              refine ct_reg ?_
              refine rl_val gw_none (ov_move rfl) rfl ?_
              refine rl_val gw_none (ov_add rfl rfl (by omega)) rfl ?_
              refine rl_val gw_none (ov_assign rfl) rfl ?_
              refine rl_nil ?_
              exact at_backR (j + 1) (by first | exact True.intro | omega | (dsimp only; omega) | (dsimp only at *; omega)) (by first | exact True.intro | omega | (dsimp only; omega) | (dsimp only at *; omega)) (by (repeat' (first | exact Sub.nil | refine Sub.cons ?_ ?_)); all_goals (first | rfl | exact lkInt rfl (by omega) | exact lkB rfl (by first | (rw [cutK_succ, g1]; rfl) | (rw [cutK_succ, g1, cutQ, g2]; rfl) | (rw [cutK_succ, g1, cutQ, g2, g3]; rfl) | (simp only [cutK_succ, cutQ, g1, g2, g3, Bool.false_or, Bool.true_and, Bool.false_and, Bool.and_false]; done)))) (Sub.cons rfl (Sub.cons rfl (Sub.cons rfl (Sub.cons rfl (Sub.cons rfl (Sub.cons rfl (Sub.cons rfl Sub.nil))))))) (fun _ hq => hq)
            ·
              have g3' := g3
              try simp only [Bool.not_eq_true', Bool.not_eq_false', Bool.not_not, decide_eq_true_eq, decide_eq_false_iff_not, beq_iff_eq, beq_eq_false_iff_ne, bne_iff_ne, bne_eq_false_iff_eq, Bool.and_eq_true, Bool.or_eq_true, Bool.and_eq_false_iff, Bool.or_eq_false_iff, inB] at g3'
              refine rl_skip (gw_not rfl rfl g3) rfl ?_
              refine rl_skip (gw_not rfl rfl g3) rfl ?_
              refine rl_skip (gw_not rfl rfl g3) rfl ?_
              refine rl_skip (gw_not rfl rfl g3) rfl ?_
              refine rl_skip (gw_not rfl rfl g3) rfl ?_
              refine rl_val (gw_some rfl rfl g1) (ov_pick_f rfl g3 rfl) rfl ?_
              refine rl_val gw_none (ov_pick_f rfl g1 rfl) rfl ?_
              refine rl_val gw_none (ov_assign rfl) rfl ?_
              refine rl_nil ?_
              refine at_block ?_
              refine at_then ?_
              refine ct_reg ?_
              refine rl_val gw_none (ov_move rfl) rfl ?_
              refine rl_val gw_none (ov_add rfl rfl (by omega)) rfl ?_
              refine rl_val gw_none (ov_assign rfl) rfl ?_
              refine rl_nil ?_
              exact at_backR (j + 1) (by first | exact True.intro | omega | (dsimp only; omega) | (dsimp only at *; omega)) (by first | exact True.intro | omega | (dsimp only; omega) | (dsimp only at *; omega)) (by (repeat' (first | exact Sub.nil | refine Sub.cons ?_ ?_)); all_goals (first | rfl | exact lkInt rfl (by omega) | exact lkB rfl (by first | (rw [cutK_succ, g1]; rfl) | (rw [cutK_succ, g1, cutQ, g2]; rfl) | (rw [cutK_succ, g1, cutQ, g2, g3]; rfl) | (simp only [cutK_succ, cutQ, g1, g2, g3, Bool.false_or, Bool.true_and, Bool.false_and, Bool.and_false]; done)))) (Sub.cons rfl (Sub.cons rfl (Sub.cons rfl (Sub.cons rfl (Sub.cons rfl (Sub.cons rfl (Sub.cons rfl Sub.nil))))))) (fun _ hq => hq)
          ·
            have g2' := g2
            try simp only [Bool.not_eq_true', Bool.not_eq_false', Bool.not_not, decide_eq_true_eq, decide_eq_false_iff_not, beq_iff_eq, beq_eq_false_iff_ne, bne_iff_ne, bne_eq_false_iff_eq, Bool.and_eq_true, Bool.or_eq_true, Bool.and_eq_false_iff, Bool.or_eq_false_iff, inB] at g2'
            refine rl_skip (gw_not rfl rfl g2) rfl ?_
            refine rl_skip (gw_not rfl rfl g2) rfl ?_
            refine rl_skip (gw_not rfl rfl g2) rfl ?_
            refine rl_skip (gw_not rfl rfl g2) rfl ?_
            refine rl_skip (gw_not rfl rfl g2) rfl ?_
            refine rl_val (gw_some rfl rfl g1) (ov_pick_f rfl g2 rfl) rfl ?_
            refine rl_val (gw_some rfl rfl g1) (ov_move rfl) rfl ?_
            refine rl_skip (gw_not rfl rfl rfl) rfl ?_
            refine rl_skip (gw_not rfl rfl rfl) rfl ?_
            refine rl_skip (gw_not rfl rfl rfl) rfl ?_
            refine rl_skip (gw_not rfl rfl rfl) rfl ?_
            refine rl_skip (gw_not rfl rfl rfl) rfl ?_
            refine rl_val (gw_some rfl rfl g1) (ov_pick_f rfl rfl rfl) rfl ?_
            refine rl_val gw_none (ov_pick_f rfl g1 rfl) rfl ?_
            refine rl_val gw_none (ov_assign rfl) rfl ?_
            refine rl_nil ?_
            refine at_block ?_
            refine at_then ?_
            refine ct_reg ?_
            refine rl_val gw_none (ov_move rfl) rfl ?_
            refine rl_val gw_none (ov_add rfl rfl (by omega)) rfl ?_
            refine rl_val gw_none (ov_assign rfl) rfl ?_
            refine rl_nil ?_
            exact at_backR (j + 1) (by first | exact True.intro | omega | (dsimp only; omega) | (dsimp only at *; omega)) (by first | exact True.intro | omega | (dsimp only; omega) | (dsimp only at *; omega)) (by (repeat' (first | exact Sub.nil | refine Sub.cons ?_ ?_)); all_goals (first | rfl | exact lkInt rfl (by omega) | exact lkB rfl (by first | (rw [cutK_succ, g1]; rfl) | (rw [cutK_succ, g1, cutQ, g2]; rfl) | (rw [cutK_succ, g1, cutQ, g2, g3]; rfl) | (simp only [cutK_succ, cutQ, g1, g2, g3, Bool.false_or, Bool.true_and, Bool.false_and, Bool.and_false]; done)))) (Sub.cons rfl (Sub.cons rfl (Sub.cons rfl (Sub.cons rfl (Sub.cons rfl (Sub.cons rfl (Sub.cons rfl Sub.nil))))))) (fun _ hq => hq)
      ·
        have hje : j = 8 := by omega
        subst hje
        refine ct_exit ?_
        refine at_then_exit ?_
        refine at_then_exit ?_
        refine at_block_hit ?_
        refine at_then ?_
        refine ct_seq ?_
        refine ct_reg ?_
        refine rl_val gw_none (ov_move rfl) rfl ?_
        refine rl_nil ?_
        refine at_then ?_
        first | refine ct_dec rfl (fun h4 => ?_) (fun h4 => ?_) | refine ct_ndec rfl (fun h4 => ?_) (fun h4 => ?_) | refine ct_eq rfl (fun h4 => ?_) (fun h4 => ?_) | refine ct_ne rfl (fun h4 => ?_) (fun h4 => ?_) | refine ct_not rfl (fun h4 => ?_) (fun h4 => ?_) | refine ct_cond rfl (fun h4 => ?_) (fun h4 => ?_)
        ·
          refine ct_reg ?_
          refine rl_val gw_none (ov_move rfl) rfl ?_
          refine rl_val gw_none (ov_move rfl) rfl ?_
          refine rl_bslice Try.underlying39 ze3 sz3 rfl rfl rfl rfl rfl rfl (fun N2 => ?_)
          refine rl_appT (ints) (ints_append) [_, _, _] (acc := acc) Try.underlying39 ze3 sz3 rfl rfl by3 rfl rfl rfl hsl ([((k : Int) + 1)]) rfl (fun w1 hp => hp.sr1 0 rfl rfl (by decide)) (ints_one _) (by unfold maxLen; omega) (by omega) rfl (fun boq1 capq1 padq1 hsq1 => ?_)
          refine rl_val gw_none (ov_assign rfl) rfl ?_
          refine rl_nil ?_
          refine at_block ?_
          refine at_then ?_
          refine ct_reg ?_
          refine rl_val gw_none (ov_move rfl) rfl ?_
          refine rl_val gw_none (ov_add rfl rfl (by omega)) rfl ?_
          refine rl_val gw_none (ov_assign rfl) rfl ?_
          refine rl_nil ?_
          have hpx := selL_yes (p := cutP xs) (f := fun x => x) hacc hx (by unfold cutP; simpa using h4)
          exact at_backR (k + 1, boq1, capq1, padq1, acc ++ [((k : Int) + 1)]) ⟨hk2, hpx, hsq1⟩ (by dsimp only at *; omega) (by dsimp only; (repeat' (first | exact Sub.nil | refine Sub.cons ?_ ?_)); all_goals (first | rfl | exact lkInt rfl (by omega))) (Sub.cons rfl (Sub.cons rfl (Sub.cons rfl (Sub.cons rfl Sub.nil)))) (fun _ hq => hq.drop.drop)
        ·
          refine ct_skip ?_
          refine at_block ?_
          refine at_then ?_
          refine ct_reg ?_
          refine rl_val gw_none (ov_move rfl) rfl ?_
          refine rl_val gw_none (ov_add rfl rfl (by omega)) rfl ?_
          refine rl_val gw_none (ov_assign rfl) rfl ?_
          refine rl_nil ?_
          have hpx := selL_no (p := cutP xs) (f := fun x => x) hacc hx (by unfold cutP; simpa using h4)
          exact at_backR (k + 1, bo, cap, pad, acc) ⟨hk2, hpx, hsl⟩ (by dsimp only at *; omega) (by dsimp only; (repeat' (first | exact Sub.nil | refine Sub.cons ?_ ?_)); all_goals (first | rfl | exact lkInt rfl (by omega))) (Sub.cons rfl (Sub.cons rfl (Sub.cons rfl (Sub.cons rfl Sub.nil)))) (fun _ hq => hq.drop)
    ·
      have hke : k = cutT.length := by omega
      subst hke
      refine ct_exit ?_
      refine at_then_exit ?_
      refine at_then_exit ?_
      refine at_block_hit ?_
      refine at_then ?_
      refine ct_seq ?_
      refine ct_reg ?_
      refine rl_val gw_none (ov_move rfl) rfl ?_
      refine rl_val gw_none (ov_assign rfl) rfl ?_
      refine rl_val gw_none (ov_assign rfl) rfl ?_
      refine rl_nil ?_
      refine at_then ?_
      refine ct_ret ?_
      refine at_ret2 Try.results36 (ro_tmp rfl) (ro_tmp rfl) (fun w1 hp => ?_)
      first | (rw [show ctL xs = acc from (ctL_yes hrB).trans hacc.symm, hrB]; exact RetSl.own 1 hp rfl hsl) | (have hb : roadsB xs = false := (by simpa [roadsB] using h1); rw [ctL_no hb, hb]; first | exact RetSl.nil hp.ext0 | exact RetSl.lit 0 hp rfl rfl (by decide))
end Go.Proofs.Ytgnnlgmeagipjaa
