import Derived.Test.YtaajkamfeaafpaaTa
import Derived.KernelRfl
set_option linter.unusedVariables false
set_option linter.unusedSimpArgs false
namespace Go.Proofs.Ytaajkamfeaafpaa
open Go Go.RowKit K
theorem iAreWoods_c (xs : List Wood) (v : Value) (w : World) (hG : ∀ y ∈ xs, GWood y) (hsr : SR w 3 v xs.length (flat encWood xs)) : Calls Try.prog 18 ([v]).toArray w (fun e w' => e = .returned (.bool (woodsB xs)) ∧ Ext w w') := by
  obtain ⟨a, cap, rfl, hcap, hmax⟩ := hsr.slice
  have hlen := hsr.len_le
  refine calls_ct Try.func18 Try.ntmps18 rfl rfl ?_
  refine ct_seq ?_
  refine ct_reg ?_
  refine rl_val gw_none (ov_assign rfl) rfl ?_
  refine rl_nil ?_
  refine at_then ?_
  refine ct_seq ?_
  refine ct_seq ?_
  refine ct_reg ?_
  refine rl_val gw_none (ov_move rfl) rfl ?_
  refine rl_val gw_none (ov_len Try.underlying25 rfl) rfl ?_
  refine rl_callv gw_none goes61 rfl (fun w1 hp => within_c _ _ _ _) rfl ?_
  refine rl_val gw_none (ov_not rfl) rfl ?_
  refine rl_nil ?_
  refine at_then ?_
  first | refine ct_dec rfl (fun h1 => ?_) (fun h1 => ?_) | refine ct_ndec rfl (fun h1 => ?_) (fun h1 => ?_) | refine ct_eq rfl (fun h1 => ?_) (fun h1 => ?_) | refine ct_ne rfl (fun h1 => ?_) (fun h1 => ?_) | refine ct_not rfl (fun h1 => ?_) (fun h1 => ?_) | refine ct_cond rfl (fun h1 => ?_) (fun h1 => ?_)
  ·
    refine ct_seq ?_
    refine ct_reg ?_
    refine rl_val gw_none (ov_assign rfl) rfl ?_
    refine rl_nil ?_
    refine at_then ?_
    refine ct_ret ?_
    refine at_then_ret ?_
    refine at_ret1 Try.results18 (ro_tmp rfl) (fun w1 hp => ?_)
    refine ⟨?_, hp.ext0⟩
    first | (rw [woodsB_false hk2 (woodStep_dup hx hq2 hy hd)]; done) | (rw [woodsB_false hk2 (woodStep_no hx (by simp_all))]; done) | (rw [woodsB_end hall]; done) | (rw [woodsB_end hall]; simp_all; done) | (rw [woodsB_big (by omega)]; done) | (rw [woodsB_size (by simp_all)]; done)
  ·
    refine ct_skip ?_
    refine at_then ?_
    refine ct_seq ?_
    refine ct_seq ?_
    refine ct_reg ?_
    refine rl_val gw_none (ov_move rfl) rfl ?_
    refine rl_val gw_none (ov_len Try.underlying25 rfl) rfl ?_
    refine rl_val gw_none (ov_move rfl) rfl ?_
    refine rl_nil ?_
    refine at_then ?_
    refine ct_block ?_
    refine ct_loopR (ι := Nat) (fun k => [(13, .int .i64 k)]) [(0, _), (11, _), (12, _)] (fun _ => _) (fun k => k ≤ xs.length ∧ ∀ j, j < k → woodStep xs j = true) (fun k => xs.length - k) (0) (Sub.cons rfl (Sub.cons rfl (Sub.cons rfl Sub.nil))) (fun _ hq => hq) (by (repeat' (first | exact Sub.nil | refine Sub.cons ?_ ?_)); all_goals (first | rfl | exact lkInt rfl (by omega))) ⟨Nat.zero_le _, fun j hj => absurd hj (Nat.not_lt_zero j)⟩ (fun k hi => ?_)
    obtain ⟨hk, hall⟩ := hi
    refine ct_seq ?_
    refine ct_reg ?_
    refine rl_val gw_none (ov_lss rfl rfl) rfl ?_
    refine rl_nil ?_
    refine at_then ?_
    refine ct_seq ?_
    first | refine ct_dec rfl (fun h2 => ?_) (fun h2 => ?_) | refine ct_ndec rfl (fun h2 => ?_) (fun h2 => ?_) | refine ct_eq rfl (fun h2 => ?_) (fun h2 => ?_) | refine ct_ne rfl (fun h2 => ?_) (fun h2 => ?_) | refine ct_not rfl (fun h2 => ?_) (fun h2 => ?_) | refine ct_cond rfl (fun h2 => ?_) (fun h2 => ?_)
    ·
      have hk2 : k < xs.length := by omega
      obtain ⟨b, o, rfl, hel⟩ := hsr.elem encWood_len (by omega) hk2
      have hx := getLt hk2
      have hgx := hG _ (List.getElem_mem hk2)
      generalize xs[k] = x at *
      have hcx := hel k x hx
      obtain ⟨c0, c1, c2, _⟩ := hel k x hx
      have hnx : x.name.size ≤ maxLen := hgx.1
      refine ct_skip ?_
      refine at_then ?_
      refine ct_seq ?_
      refine ct_block ?_
      refine ct_seq ?_
      refine ct_reg ?_
      refine rl_val gw_none (ov_move rfl) rfl ?_
      refine rl_val gw_none (ov_ix Try.underlying25 sz67 rfl rfl _ rfl (by omega)) rfl ?_
      first | refine rl_val gw_none (ov_loadaw ag67 rfl rfl (by assumption)) rfl ?_ | refine rl_val gw_none (ov_loadall 0 ag67 rfl rfl rfl) rfl ?_ | refine rl_val gw_none (ov_loadall 1 ag67 rfl rfl rfl) rfl ?_ | refine rl_val gw_none (ov_loadall 2 ag67 rfl rfl rfl) rfl ?_ | refine rl_val gw_none (ov_loadall 3 ag67 rfl rfl rfl) rfl ?_
      refine rl_alloc ze67 rfl (fun N1 => ?_)
      refine rl_val gw_none (ov_assign rfl) rfl ?_
      refine rl_store [] sz67 rfl rfl rfl rfl rfl (Nat.le_of_ble_eq_true rfl) ?_
      refine rl_nil ?_
      refine at_then ?_
      refine ct_seq ?_
      refine ct_seq ?_
      refine ct_reg ?_
      refine rl_val gw_none (ov_field fo67_0 rfl) rfl ?_
      first | refine rl_val gw_none (ov_load 0 sc9 rfl rfl rfl) rfl ?_ | refine rl_val gw_none (ov_load 0 sc9 rfl rfl (by assumption)) rfl ?_
      refine rl_callv gw_none goes62 rfl (fun w1 hp => isWord_c _ _ hnx) rfl ?_
      refine rl_val gw_none (ov_not rfl) rfl ?_
      refine rl_val gw_none (ov_move rfl) rfl ?_
      refine rl_split (t := 22) rfl (fun g1 => ?_) (fun g1 => ?_)
      ·
        have g1' := g1
        try simp only [Bool.not_eq_true', Bool.not_eq_false', Bool.not_not, decide_eq_true_eq, decide_eq_false_iff_not, beq_iff_eq, beq_eq_false_iff_ne, bne_iff_ne, bne_eq_false_iff_eq, Bool.and_eq_true, Bool.or_eq_true, Bool.and_eq_false_iff, Bool.or_eq_false_iff, inB] at g1'
        refine rl_skip (gw_not rfl rfl g1) rfl ?_
        refine rl_skip (gw_not rfl rfl g1) rfl ?_
        refine rl_skip (gw_not rfl rfl g1) rfl ?_
        refine rl_skip (gw_not rfl rfl g1) rfl ?_
        refine rl_val gw_none (ov_pick_t rfl g1 rfl) rfl ?_
        refine rl_val gw_none (ov_move rfl) rfl ?_
        refine rl_skip (gw_not rfl rfl rfl) rfl ?_
        refine rl_skip (gw_not rfl rfl rfl) rfl ?_
        refine rl_skip (gw_not rfl rfl rfl) rfl ?_
        refine rl_skip (gw_not rfl rfl rfl) rfl ?_
        refine rl_val gw_none (ov_pick_t rfl rfl rfl) rfl ?_
        refine rl_nil ?_
        refine at_then ?_
        refine ct_true rfl rfl ?_
        refine ct_seq ?_
        refine ct_reg ?_
        refine rl_val gw_none (ov_assign rfl) rfl ?_
        refine rl_nil ?_
        refine at_then ?_
        refine ct_ret ?_
        refine at_then_ret ?_
        refine at_block_ret ?_
        refine at_then_ret ?_
        refine at_then_ret ?_
        refine at_block_ret ?_
        refine at_then_ret ?_
        refine at_ret1 Try.results18 (ro_tmp rfl) (fun w1 hp => ?_)
        refine ⟨?_, hp.ext0⟩
        first | (rw [woodsB_false hk2 (woodStep_dup hx hq2 hy hd)]; done) | (rw [woodsB_false hk2 (woodStep_no hx (by simp_all))]; done) | (rw [woodsB_end hall]; done) | (rw [woodsB_end hall]; simp_all; done) | (rw [woodsB_big (by omega)]; done) | (rw [woodsB_size (by simp_all)]; done)
      ·
        have g1' := g1
        try simp only [Bool.not_eq_true', Bool.not_eq_false', Bool.not_not, decide_eq_true_eq, decide_eq_false_iff_not, beq_iff_eq, beq_eq_false_iff_ne, bne_iff_ne, bne_eq_false_iff_eq, Bool.and_eq_true, Bool.or_eq_true, Bool.and_eq_false_iff, Bool.or_eq_false_iff, inB] at g1'
        refine rl_val (gw_some rfl rfl g1) (ov_field fo67_1 rfl) rfl ?_
        first | refine rl_val (gw_some rfl rfl g1) (ov_load 0 sc3 rfl rfl rfl) rfl ?_ | refine rl_val (gw_some rfl rfl g1) (ov_load 0 sc3 rfl rfl (by assumption)) rfl ?_
        refine rl_callv (gw_some rfl rfl g1) goes61 rfl (fun w1 hp => within_c _ _ _ _) rfl ?_
        refine rl_val (gw_some rfl rfl g1) (ov_not rfl) rfl ?_
        refine rl_val gw_none (ov_pick_f rfl g1 rfl) rfl ?_
        refine rl_val gw_none (ov_move rfl) rfl ?_
        refine rl_split (t := 28) rfl (fun g2 => ?_) (fun g2 => ?_)
        ·
          have g2' := g2
          try simp only [Bool.not_eq_true', Bool.not_eq_false', Bool.not_not, decide_eq_true_eq, decide_eq_false_iff_not, beq_iff_eq, beq_eq_false_iff_ne, bne_iff_ne, bne_eq_false_iff_eq, Bool.and_eq_true, Bool.or_eq_true, Bool.and_eq_false_iff, Bool.or_eq_false_iff, inB] at g2'
          refine rl_skip (gw_not rfl rfl g2) rfl ?_
          refine rl_skip (gw_not rfl rfl g2) rfl ?_
          refine rl_skip (gw_not rfl rfl g2) rfl ?_
          refine rl_skip (gw_not rfl rfl g2) rfl ?_
          refine rl_val gw_none (ov_pick_t rfl g2 rfl) rfl ?_
          refine rl_nil ?_
          refine at_then ?_
          refine ct_true rfl rfl ?_
          refine ct_seq ?_
          refine ct_reg ?_
          refine rl_val gw_none (ov_assign rfl) rfl ?_
          refine rl_nil ?_
          refine at_then ?_
          refine ct_ret ?_
          refine at_then_ret ?_
          refine at_block_ret ?_
          refine at_then_ret ?_
          refine at_then_ret ?_
          refine at_block_ret ?_
          refine at_then_ret ?_
          refine at_ret1 Try.results18 (ro_tmp rfl) (fun w1 hp => ?_)
          refine ⟨?_, hp.ext0⟩
          first | (rw [woodsB_false hk2 (woodStep_dup hx hq2 hy hd)]; done) | (rw [woodsB_false hk2 (woodStep_no hx (by simp_all))]; done) | (rw [woodsB_end hall]; done) | (rw [woodsB_end hall]; simp_all; done) | (rw [woodsB_big (by omega)]; done) | (rw [woodsB_size (by simp_all)]; done)
        ·
          have g2' := g2
          try simp only [Bool.not_eq_true', Bool.not_eq_false', Bool.not_not, decide_eq_true_eq, decide_eq_false_iff_not, beq_iff_eq, beq_eq_false_iff_ne, bne_iff_ne, bne_eq_false_iff_eq, Bool.and_eq_true, Bool.or_eq_true, Bool.and_eq_false_iff, Bool.or_eq_false_iff, inB] at g2'
          refine rl_val (gw_some rfl rfl g2) (ov_field fo67_2 rfl) rfl ?_
          first | refine rl_val (gw_some rfl rfl g2) (ov_load 0 sc3 rfl rfl rfl) rfl ?_ | refine rl_val (gw_some rfl rfl g2) (ov_load 0 sc3 rfl rfl (by assumption)) rfl ?_
          refine rl_callv (gw_some rfl rfl g2) goes61 rfl (fun w1 hp => within_c _ _ _ _) rfl ?_
          refine rl_val (gw_some rfl rfl g2) (ov_not rfl) rfl ?_
          refine rl_val gw_none (ov_pick_f rfl g2 rfl) rfl ?_
          refine rl_nil ?_
          refine at_then ?_
          first | refine ct_dec rfl (fun h3 => ?_) (fun h3 => ?_) | refine ct_ndec rfl (fun h3 => ?_) (fun h3 => ?_) | refine ct_eq rfl (fun h3 => ?_) (fun h3 => ?_) | refine ct_ne rfl (fun h3 => ?_) (fun h3 => ?_) | refine ct_not rfl (fun h3 => ?_) (fun h3 => ?_) | refine ct_cond rfl (fun h3 => ?_) (fun h3 => ?_)
          ·
            refine ct_seq ?_
            refine ct_reg ?_
            refine rl_val gw_none (ov_assign rfl) rfl ?_
            refine rl_nil ?_
            refine at_then ?_
            refine ct_ret ?_
            refine at_then_ret ?_
            refine at_block_ret ?_
            refine at_then_ret ?_
            refine at_then_ret ?_
            refine at_block_ret ?_
            refine at_then_ret ?_
            refine at_ret1 Try.results18 (ro_tmp rfl) (fun w1 hp => ?_)
            refine ⟨?_, hp.ext0⟩
            first | (rw [woodsB_false hk2 (woodStep_dup hx hq2 hy hd)]; done) | (rw [woodsB_false hk2 (woodStep_no hx (by simp_all))]; done) | (rw [woodsB_end hall]; done) | (rw [woodsB_end hall]; simp_all; done) | (rw [woodsB_big (by omega)]; done) | (rw [woodsB_size (by simp_all)]; done)
          ·
            refine ct_skip ?_
            refine at_then ?_
            refine ct_seq ?_
            refine ct_reg ?_
            refine rl_val gw_none (ov_move rfl) rfl ?_
            refine rl_val gw_none (ov_move rfl) rfl ?_
            refine rl_val gw_none (ov_subh Try.underlying25 sz67 rfl rfl (_) rfl (by omega)) rfl ?_
            refine rl_val gw_none (ov_len Try.underlying25 rfl) rfl ?_
            refine rl_val gw_none (ov_move rfl) rfl ?_
            refine rl_nil ?_
            refine at_then ?_
            refine ct_block ?_
            refine ct_loopR (ι := Nat) (fun q => [(38, .int .i64 q)]) [(0, _), (4, _), (11, _), (12, _), (13, _), (36, _), (37, _)] (fun _ => _) (fun q => q ≤ k ∧ ∀ j, j < q → ∀ y, xs[j]? = some y → sameB y.name x.name = false) (fun q => k - q) (0) (Sub.cons rfl (Sub.cons rfl (Sub.cons rfl (Sub.cons rfl (Sub.cons rfl (Sub.cons rfl (Sub.cons rfl Sub.nil))))))) (fun _ hq => hq) (by (repeat' (first | exact Sub.nil | refine Sub.cons ?_ ?_)); all_goals (first | rfl | exact lkInt rfl (by omega))) ⟨Nat.zero_le _, fun j hj => absurd hj (Nat.not_lt_zero j)⟩ (fun q hq => ?_)
            obtain ⟨hqk, hdup⟩ := hq
            refine ct_seq ?_
            refine ct_reg ?_
            refine rl_val gw_none (ov_lss rfl rfl) rfl ?_
            refine rl_nil ?_
            refine at_then ?_
            refine ct_seq ?_
            first | refine ct_dec rfl (fun h4 => ?_) (fun h4 => ?_) | refine ct_ndec rfl (fun h4 => ?_) (fun h4 => ?_) | refine ct_eq rfl (fun h4 => ?_) (fun h4 => ?_) | refine ct_ne rfl (fun h4 => ?_) (fun h4 => ?_) | refine ct_not rfl (fun h4 => ?_) (fun h4 => ?_) | refine ct_cond rfl (fun h4 => ?_) (fun h4 => ?_)
            ·
              have hq2 : q < k := by omega
              have hq3 : q < xs.length := by omega
              have hy := getLt hq3
              generalize xs[q] = y at *
              have hcy := hel q y hy
              obtain ⟨d0, d1, d2, _⟩ := hel q y hy
              refine ct_skip ?_
              refine at_then ?_
              refine ct_seq ?_
              refine ct_block ?_
              refine ct_seq ?_
              refine ct_reg ?_
              refine rl_val gw_none (ov_ix Try.underlying25 sz67 rfl rfl _ rfl (by omega)) rfl ?_
              first | refine rl_val gw_none (ov_loadaw ag67 rfl rfl (by assumption)) rfl ?_ | refine rl_val gw_none (ov_loadall 0 ag67 rfl rfl rfl) rfl ?_ | refine rl_val gw_none (ov_loadall 1 ag67 rfl rfl rfl) rfl ?_ | refine rl_val gw_none (ov_loadall 2 ag67 rfl rfl rfl) rfl ?_ | refine rl_val gw_none (ov_loadall 3 ag67 rfl rfl rfl) rfl ?_
              refine rl_alloc ze67 rfl (fun N2 => ?_)
              refine rl_store [] sz67 rfl rfl rfl rfl rfl (Nat.le_of_ble_eq_true rfl) ?_
              refine rl_nil ?_
              refine at_then ?_
              refine ct_seq ?_
              refine ct_reg ?_
              refine rl_val gw_none (ov_field fo67_0 rfl) rfl ?_
              first | refine rl_val gw_none (ov_load 0 sc9 rfl rfl rfl) rfl ?_ | refine rl_val gw_none (ov_load 0 sc9 rfl rfl (by assumption)) rfl ?_
              refine rl_val gw_none (ov_field fo67_0 rfl) rfl ?_
              first | refine rl_val gw_none (ov_load 1 sc9 rfl rfl rfl) rfl ?_ | refine rl_val gw_none (ov_load 1 sc9 rfl rfl (by assumption)) rfl ?_
              refine rl_val gw_none (ov_seql rfl rfl) rfl ?_
              refine rl_nil ?_
              refine at_then ?_
              first | refine ct_dec rfl (fun h5 => ?_) (fun h5 => ?_) | refine ct_ndec rfl (fun h5 => ?_) (fun h5 => ?_) | refine ct_eq rfl (fun h5 => ?_) (fun h5 => ?_) | refine ct_ne rfl (fun h5 => ?_) (fun h5 => ?_) | refine ct_not rfl (fun h5 => ?_) (fun h5 => ?_) | refine ct_cond rfl (fun h5 => ?_) (fun h5 => ?_)
              ·
                have hd : sameB y.name x.name = true := h5
                refine ct_seq ?_
                refine ct_reg ?_
                refine rl_val gw_none (ov_assign rfl) rfl ?_
                refine rl_nil ?_
                refine at_then ?_
                refine ct_ret ?_
                refine at_block_ret ?_
                refine at_then_ret ?_
                refine at_then_ret ?_
                refine at_block_ret ?_
                refine at_block_ret ?_
                refine at_then_ret ?_
                refine at_then_ret ?_
                refine at_block_ret ?_
                refine at_then_ret ?_
                refine at_ret1 Try.results18 (ro_tmp rfl) (fun w1 hp => ?_)
                refine ⟨?_, hp.ext0⟩
                first | (rw [woodsB_false hk2 (woodStep_dup hx hq2 hy hd)]; done) | (rw [woodsB_false hk2 (woodStep_no hx (by simp_all))]; done) | (rw [woodsB_end hall]; done) | (rw [woodsB_end hall]; simp_all; done) | (rw [woodsB_big (by omega)]; done) | (rw [woodsB_size (by simp_all)]; done)
              ·
                have hnd : sameB y.name x.name = false := h5
                refine ct_skip ?_
                refine at_block ?_
                refine at_then ?_
                refine ct_reg ?_
                refine rl_val gw_none (ov_add rfl rfl (by omega)) rfl ?_
                refine rl_val gw_none (ov_move rfl) rfl ?_
                refine rl_nil ?_
                exact at_backR (q + 1) ⟨by omega, fun j hj z hz => by by_cases hjq : j = q; exact (by subst hjq; rw [hy] at hz; exact (Option.some.inj hz) ▸ hnd); exact hdup j (by omega) z hz⟩ (by first | exact True.intro | omega | (dsimp only; omega) | (dsimp only at *; omega)) (by (repeat' (first | exact Sub.nil | refine Sub.cons ?_ ?_)); all_goals (first | rfl | exact lkInt rfl (by omega))) (Sub.cons rfl (Sub.cons rfl (Sub.cons rfl (Sub.cons rfl (Sub.cons rfl (Sub.cons rfl (Sub.cons rfl Sub.nil))))))) (fun _ hq => hq.drop)
            ·
              have hqe : k = q := by omega
              subst hqe
              refine ct_exit ?_
              refine at_then_exit ?_
              refine at_then_exit ?_
              refine at_block_hit ?_
              refine at_block ?_
              refine at_then ?_
              refine ct_reg ?_
              refine rl_val gw_none (ov_add rfl rfl (by omega)) rfl ?_
              refine rl_val gw_none (ov_move rfl) rfl ?_
              refine rl_nil ?_
              have hstT : woodStep xs k = true := by rw [woodStep_ok hx hdup]; simp_all; try omega
              exact at_backR (k + 1) ⟨hk2, fun j hj => by by_cases hjk : j = k; exact hjk ▸ hstT; exact hall j (by omega)⟩ (by first | exact True.intro | omega | (dsimp only; omega) | (dsimp only at *; omega)) (by (repeat' (first | exact Sub.nil | refine Sub.cons ?_ ?_)); all_goals (first | rfl | exact lkInt rfl (by omega))) (Sub.cons rfl (Sub.cons rfl (Sub.cons rfl Sub.nil))) (fun _ hq => hq.drop)
    ·
      have hke : k = xs.length := by omega
      subst hke
      refine ct_exit ?_
      refine at_then_exit ?_
      refine at_then_exit ?_
      refine at_block_hit ?_
      refine at_then ?_
      refine ct_seq ?_
      refine ct_reg ?_
      refine rl_val gw_none (ov_assign rfl) rfl ?_
      refine rl_nil ?_
      refine at_then ?_
      refine ct_ret ?_
      refine at_ret1 Try.results18 (ro_tmp rfl) (fun w1 hp => ?_)
      refine ⟨?_, hp.ext0⟩
      first | (rw [woodsB_false hk2 (woodStep_dup hx hq2 hy hd)]; done) | (rw [woodsB_false hk2 (woodStep_no hx (by simp_all))]; done) | (rw [woodsB_end hall]; done) | (rw [woodsB_end hall]; simp_all; done) | (rw [woodsB_big (by omega)]; done) | (rw [woodsB_size (by simp_all)]; done)
end Go.Proofs.Ytaajkamfeaafpaa
