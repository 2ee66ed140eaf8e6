import Derived.Test.YtaajkamfeaafpaaTb
import Derived.Test.YtaajkamfeaafpaaTc
import Derived.KernelRfl
set_option linter.unusedVariables false
set_option linter.unusedSimpArgs false
namespace Go.Proofs.Ytaajkamfeaafpaa
open Go Go.RowKit K
theorem iCheapestWood_c (ws : List Wood) (hh : Int) (vws : Value) (w : World) (hGws : ∀ y ∈ ws, GWood y) (hsws : SR w 3 vws ws.length (flat encWood ws)) (zhh : In64 hh) : Calls Try.prog 21 ([vws, .int .i64 hh]).toArray w (fun e w' => e = .returned (.tuple #[.int .i64 (cheapR ws hh).1, .bool (cheapR ws hh).2]) ∧ Ext w w') := by
  obtain ⟨aw, capw, rfl, hcapw, hmaxw⟩ := hsws.slice
  have hlenw := hsws.len_le
  refine calls_ct Try.func21 Try.ntmps21 rfl rfl ?_
  refine ct_seq ?_
  refine ct_reg ?_
  refine rl_val gw_none (ov_assign rfl) rfl ?_
  refine rl_val gw_none (ov_assign rfl) rfl ?_
  refine rl_nil ?_
  refine at_then ?_
  refine ct_seq ?_
  refine ct_seq ?_
  refine ct_reg ?_
  refine rl_val gw_none (ov_move rfl) rfl ?_
  refine rl_callv gw_none goes18 rfl (fun w1 hp => iAreWoods_c ws _ _ hGws (hsws.ext hp.ext0)) rfl ?_
  refine rl_val gw_none (ov_not rfl) rfl ?_
  refine rl_val gw_none (ov_move rfl) rfl ?_
  refine rl_split (t := 12) rfl (fun g1 => ?_) (fun g1 => ?_)
  ·
    have g1' := g1
    try simp only [Bool.not_eq_true', Bool.not_eq_false', Bool.not_not, decide_eq_true_eq, decide_eq_false_iff_not, beq_iff_eq, beq_eq_false_iff_ne, bne_iff_ne, bne_eq_false_iff_eq, Bool.and_eq_true, Bool.or_eq_true, Bool.and_eq_false_iff, Bool.or_eq_false_iff, inB] at g1'
    refine rl_skip (gw_not rfl rfl g1) rfl ?_
    refine rl_skip (gw_not rfl rfl g1) rfl ?_
    refine rl_skip (gw_not rfl rfl g1) rfl ?_
    refine rl_val gw_none (ov_pick_t rfl g1 rfl) rfl ?_
    refine rl_nil ?_
    refine at_then ?_
    refine ct_true rfl rfl ?_
    refine ct_seq ?_
    refine ct_reg ?_
    refine rl_val gw_none (ov_assign rfl) rfl ?_
    refine rl_val gw_none (ov_assign rfl) rfl ?_
    refine rl_nil ?_
    refine at_then ?_
    refine ct_ret ?_
    refine at_then_ret ?_
    refine at_ret2 Try.results21 (ro_tmp rfl) (ro_tmp rfl) (fun w1 hp => ?_)
    refine ⟨?_, hp.ext0⟩
    first | (rw [cheapR_yes hok hin hbest (by assumption)]; done) | (rw [cheapR_no (.inr (.inr (by rw [← hbest]; assumption)))]; done) | (rw [cheapR_no (.inl (by simpa using g1))]; done) | (rw [cheapR_no (.inr (.inl (by simpa using h1)))]; done)
  ·
    have g1' := g1
    try simp only [Bool.not_eq_true', Bool.not_eq_false', Bool.not_not, decide_eq_true_eq, decide_eq_false_iff_not, beq_iff_eq, beq_eq_false_iff_ne, bne_iff_ne, bne_eq_false_iff_eq, Bool.and_eq_true, Bool.or_eq_true, Bool.and_eq_false_iff, Bool.or_eq_false_iff, inB] at g1'
    refine rl_val (gw_some rfl rfl g1) (ov_move rfl) rfl ?_
    refine rl_callv (gw_some rfl rfl g1) goes61 rfl (fun w1 hp => within_c _ _ _ _) rfl ?_
    refine rl_val (gw_some rfl rfl g1) (ov_not rfl) rfl ?_
    refine rl_val gw_none (ov_pick_f rfl g1 rfl) rfl ?_
    refine rl_nil ?_
    refine at_then ?_
    first | refine ct_dec rfl (fun h1 => ?_) (fun h1 => ?_) | refine ct_ndec rfl (fun h1 => ?_) (fun h1 => ?_) | refine ct_eq rfl (fun h1 => ?_) (fun h1 => ?_) | refine ct_ne rfl (fun h1 => ?_) (fun h1 => ?_) | refine ct_not rfl (fun h1 => ?_) (fun h1 => ?_) | refine ct_cond rfl (fun h1 => ?_) (fun h1 => ?_)
    ·
      refine ct_seq ?_
      refine ct_reg ?_
      refine rl_val gw_none (ov_assign rfl) rfl ?_
      refine rl_val gw_none (ov_assign rfl) rfl ?_
      refine rl_nil ?_
      refine at_then ?_
      refine ct_ret ?_
      refine at_then_ret ?_
      refine at_ret2 Try.results21 (ro_tmp rfl) (ro_tmp rfl) (fun w1 hp => ?_)
      refine ⟨?_, hp.ext0⟩
      first | (rw [cheapR_yes hok hin hbest (by assumption)]; done) | (rw [cheapR_no (.inr (.inr (by rw [← hbest]; assumption)))]; done) | (rw [cheapR_no (.inl (by simpa using g1))]; done) | (rw [cheapR_no (.inr (.inl (by simpa using h1)))]; done)
    ·
      have hok : woodsB ws = true := by simpa using g1
      have hin : inB hh 1 100 = true := by simpa using h1
      refine ct_skip ?_
      refine at_then ?_
      refine ct_seq ?_
      refine ct_reg ?_
      refine rl_val gw_none (ov_assign rfl) rfl ?_
      refine rl_nil ?_
      refine at_then ?_
      refine ct_seq ?_
      refine ct_seq ?_
      refine ct_reg ?_
      refine rl_val gw_none (ov_move rfl) rfl ?_
      refine rl_val gw_none (ov_len Try.underlying25 rfl) rfl ?_
      refine rl_val gw_none (ov_move rfl) rfl ?_
      refine rl_nil ?_
      refine at_then ?_
      refine ct_block ?_
      refine ct_loopR (ι := Nat × Int) (fun p => [(6, .int .i64 p.2), (19, .int .i64 p.1)]) [(0, _), (1, _), (4, _), (5, _), (17, _), (18, _)] (fun _ => _) (fun p => p.1 ≤ ws.length ∧ p.2 = cheapL ws hh p.1) (fun p => ws.length - p.1) ((0, -1)) (Sub.cons rfl (Sub.cons rfl (Sub.cons rfl (Sub.cons rfl (Sub.cons rfl (Sub.cons rfl Sub.nil)))))) (fun _ hq => hq) (by (repeat' (first | exact Sub.nil | refine Sub.cons ?_ ?_)); all_goals (first | rfl | exact lkInt rfl (by omega))) ⟨Nat.zero_le _, rfl⟩ (fun p hp0 => ?_)
      obtain ⟨k, best⟩ := p
      obtain ⟨hk, hbest⟩ := hp0
      dsimp only at hk hbest
      refine ct_seq ?_
      refine ct_reg ?_
      refine rl_val gw_none (ov_lss rfl rfl) rfl ?_
      refine rl_nil ?_
      refine at_then ?_
      refine ct_seq ?_
      first | refine ct_dec rfl (fun h2 => ?_) (fun h2 => ?_) | refine ct_ndec rfl (fun h2 => ?_) (fun h2 => ?_) | refine ct_eq rfl (fun h2 => ?_) (fun h2 => ?_) | refine ct_ne rfl (fun h2 => ?_) (fun h2 => ?_) | refine ct_not rfl (fun h2 => ?_) (fun h2 => ?_) | refine ct_cond rfl (fun h2 => ?_) (fun h2 => ?_)
      ·
        have hk2 : k < ws.length := by omega
        obtain ⟨b, o, rfl, hel⟩ := hsws.elem encWood_len (by omega) hk2
        have hx := getLt hk2
        have hgx := hGws _ (List.getElem_mem hk2)
        generalize ws[k] = x at *
        have hcx := hel k x hx
        obtain ⟨c0, c1, c2, _⟩ := hel k x hx
        have hnx : x.name.size ≤ maxLen := hgx.1
        have hlt := cheapL_lt ws hh k
        have hlt2 : 0 ≤ best → best < k := by omega
        refine ct_skip ?_
        refine at_then ?_
        refine ct_seq ?_
        refine ct_block ?_
        refine ct_seq ?_
        refine ct_reg ?_
        refine rl_val gw_none (ov_move rfl) rfl ?_
        first | refine rl_val gw_none (ov_ix Try.underlying25 sz67 rfl rfl _ rfl (by omega)) rfl ?_ | refine rl_val gw_none (ov_ix Try.underlying25 sz67 rfl rfl (best.toNat) (by omega) (by omega)) rfl ?_
        first | refine rl_val gw_none (ov_loadaw ag67 rfl rfl (by assumption)) rfl ?_ | refine rl_val gw_none (ov_loadall 0 ag67 rfl rfl rfl) rfl ?_ | refine rl_val gw_none (ov_loadall 1 ag67 rfl rfl rfl) rfl ?_ | refine rl_val gw_none (ov_loadall 2 ag67 rfl rfl rfl) rfl ?_ | refine rl_val gw_none (ov_loadall 3 ag67 rfl rfl rfl) rfl ?_
        refine rl_alloc ze67 rfl (fun N1 => ?_)
        refine rl_val gw_none (ov_assign rfl) rfl ?_
        refine rl_store [] sz67 rfl rfl rfl rfl rfl (Nat.le_of_ble_eq_true rfl) ?_
        refine rl_nil ?_
        refine at_then ?_
        refine ct_seq ?_
        refine ct_dr 18 (by kernel_rfl) (by kernel_rfl) ?_
        refine ql_val gw_none (ov_field fo67_1 rfl) rfl ?_
        first | refine ql_val gw_none (ov_load 0 sc3 rfl rfl rfl) rfl ?_ | refine ql_val gw_none (ov_load 0 sc3 rfl rfl (by assumption)) rfl ?_
        refine ql_val gw_none (ov_move rfl) rfl ?_
        refine ql_val gw_none (ov_geq rfl rfl) rfl ?_
        refine ql_val gw_none (ov_move rfl) rfl ?_
        refine ql_split (t := 28) rfl (fun g2 => ?_) (fun g2 => ?_)
        ·
          have g2' := g2
          try simp only [Bool.not_eq_true', Bool.not_eq_false', Bool.not_not, decide_eq_true_eq, decide_eq_false_iff_not, beq_iff_eq, beq_eq_false_iff_ne, bne_iff_ne, bne_eq_false_iff_eq, Bool.and_eq_true, Bool.or_eq_true, Bool.and_eq_false_iff, Bool.or_eq_false_iff, inB] at g2'
          refine ql_val (gw_some rfl rfl g2) (ov_move rfl) rfl ?_
          refine ql_val (gw_some rfl rfl g2) (ov_lss rfl rfl) rfl ?_
          refine ql_val (gw_some rfl rfl g2) (ov_move rfl) rfl ?_
          refine ql_split (t := 31) rfl (fun g3 => ?_) (fun g3 => ?_)
          ·
            skip
            refine ql_skip (gw_not rfl rfl g3) rfl ?_
            refine ql_skip (gw_not rfl rfl g3) rfl ?_
            refine ql_skip (gw_not rfl rfl g3) rfl ?_
            refine ql_skip (gw_not rfl rfl g3) rfl ?_
            refine ql_skip (gw_not rfl rfl g3) rfl ?_
            refine ql_skip (gw_not rfl rfl g3) rfl ?_
            refine ql_skip (gw_not rfl rfl g3) rfl ?_
            refine ql_skip (gw_not rfl rfl g3) rfl ?_
            refine ql_val (gw_some rfl rfl g2) (ov_pick_t rfl g3 rfl) rfl ?_
            refine ql_val gw_none (ov_pick_t rfl g2 rfl) rfl ?_
            refine ql_nil ?_
            refine rl_nil ?_
            refine at_then ?_
            refine ct_true rfl rfl ?_
            refine ct_reg ?_
            refine rl_val gw_none (ov_move rfl) rfl ?_
            refine rl_val gw_none (ov_assign rfl) rfl ?_
            refine rl_nil ?_
            refine at_block ?_
            refine at_then ?_
            refine ct_reg ?_
            refine rl_val gw_none (ov_add rfl rfl (by omega)) rfl ?_
            refine rl_val gw_none (ov_move rfl) rfl ?_
            refine rl_nil ?_
            have hbn := cheapL_yes hbest hx (by first | omega | (simp at g2; omega)) (by first | (left; simpa using g3) | (right; rw [hca]; simpa using h3))
            exact at_backR (k + 1, (k : Int)) ⟨hk2, hbn⟩ (by dsimp only at *; omega) (by (repeat' (first | exact Sub.nil | refine Sub.cons ?_ ?_)); all_goals (first | rfl | exact lkInt rfl (by omega))) (Sub.cons rfl (Sub.cons rfl (Sub.cons rfl (Sub.cons rfl (Sub.cons rfl (Sub.cons rfl Sub.nil)))))) (fun _ hq => hq.drop)
          ·
            have g3n := of_decide_eq_false g3
            have hb0 : best.toNat < ws.length := by omega
            obtain ⟨y, hy⟩ : ∃ y, ws[best.toNat]? = some y := ⟨_, getLt hb0⟩
            have hcy := hel _ y hy
            obtain ⟨d0, d1, d2, _⟩ := hel _ y hy
            have hca := costAt_eq hy
            refine ql_val (gw_some rfl rfl g3) (ov_field fo67_2 rfl) rfl ?_
            first | refine ql_val (gw_some rfl rfl g3) (ov_load 0 sc3 rfl rfl rfl) rfl ?_ | refine ql_val (gw_some rfl rfl g3) (ov_load 0 sc3 rfl rfl (by assumption)) rfl ?_
            refine ql_val (gw_some rfl rfl g3) (ov_move rfl) rfl ?_
            refine ql_val (gw_some rfl rfl g3) (ov_move rfl) rfl ?_
            first | refine ql_val (gw_some rfl rfl g3) (ov_ix Try.underlying25 sz67 rfl rfl _ rfl (by omega)) rfl ?_ | refine ql_val (gw_some rfl rfl g3) (ov_ix Try.underlying25 sz67 rfl rfl (best.toNat) (by omega) (by omega)) rfl ?_
            refine ql_val (gw_some rfl rfl g3) (ov_field fo67_2 rfl) rfl ?_
            first | refine ql_val (gw_some rfl rfl g3) (ov_load 0 sc3 rfl rfl rfl) rfl ?_ | refine ql_val (gw_some rfl rfl g3) (ov_load 1 sc3 rfl rfl rfl) rfl ?_ | refine ql_val (gw_some rfl rfl g3) (ov_load 2 sc3 rfl rfl rfl) rfl ?_ | refine ql_val (gw_some rfl rfl g3) (ov_load 3 sc3 rfl rfl rfl) rfl ?_ | refine ql_val (gw_some rfl rfl g3) (ov_loadw sc3 rfl (by assumption)) rfl ?_ | refine ql_val (gw_some rfl rfl g3) (ov_load 0 sc3 rfl rfl (by assumption)) rfl ?_ | refine ql_val (gw_some rfl rfl g3) (ov_load 1 sc3 rfl rfl (by assumption)) rfl ?_ | refine ql_val (gw_some rfl rfl g3) (ov_load 2 sc3 rfl rfl (by assumption)) rfl ?_ | refine ql_val (gw_some rfl rfl g3) (ov_load 3 sc3 rfl rfl (by assumption)) rfl ?_
            refine ql_val (gw_some rfl rfl g3) (ov_lss rfl rfl) rfl ?_
            refine ql_val (gw_some rfl rfl g2) (ov_pick_f rfl g3 rfl) rfl ?_
            refine ql_val gw_none (ov_pick_t rfl g2 rfl) rfl ?_
            refine ql_nil ?_
            refine rl_nil ?_
            refine at_then ?_
            first | refine ct_dec rfl (fun h3 => ?_) (fun h3 => ?_) | refine ct_ndec rfl (fun h3 => ?_) (fun h3 => ?_) | refine ct_eq rfl (fun h3 => ?_) (fun h3 => ?_) | refine ct_ne rfl (fun h3 => ?_) (fun h3 => ?_) | refine ct_not rfl (fun h3 => ?_) (fun h3 => ?_) | refine ct_cond rfl (fun h3 => ?_) (fun h3 => ?_)
            ·
              refine ct_reg ?_
              refine rl_val gw_none (ov_move rfl) rfl ?_
              refine rl_val gw_none (ov_assign rfl) rfl ?_
              refine rl_nil ?_
              refine at_block ?_
              refine at_then ?_
              refine ct_reg ?_
              refine rl_val gw_none (ov_add rfl rfl (by omega)) rfl ?_
              refine rl_val gw_none (ov_move rfl) rfl ?_
              refine rl_nil ?_
              have hbn := cheapL_yes hbest hx (by first | omega | (simp at g2; omega)) (by first | (left; simpa using g3) | (right; rw [hca]; simpa using h3))
              exact at_backR (k + 1, (k : Int)) ⟨hk2, hbn⟩ (by dsimp only at *; omega) (by (repeat' (first | exact Sub.nil | refine Sub.cons ?_ ?_)); all_goals (first | rfl | exact lkInt rfl (by omega))) (Sub.cons rfl (Sub.cons rfl (Sub.cons rfl (Sub.cons rfl (Sub.cons rfl (Sub.cons rfl Sub.nil)))))) (fun _ hq => hq.drop)
            ·
              refine ct_skip ?_
              refine at_block ?_
              refine at_then ?_
              refine ct_reg ?_
              refine rl_val gw_none (ov_add rfl rfl (by omega)) rfl ?_
              refine rl_val gw_none (ov_move rfl) rfl ?_
              refine rl_nil ?_
              have hbn := cheapL_no hbest hx (by first | (simp at g2; omega) | (simp at g2 g3 h3; rw [hca]; omega))
              exact at_backR (k + 1, best) ⟨hk2, hbn⟩ (by dsimp only at *; omega) (by (repeat' (first | exact Sub.nil | refine Sub.cons ?_ ?_)); all_goals (first | rfl | exact lkInt rfl (by omega))) (Sub.cons rfl (Sub.cons rfl (Sub.cons rfl (Sub.cons rfl (Sub.cons rfl (Sub.cons rfl Sub.nil)))))) (fun _ hq => hq.drop)
        ·
          have g2' := g2
          try simp only [Bool.not_eq_true', Bool.not_eq_false', Bool.not_not, decide_eq_true_eq, decide_eq_false_iff_not, beq_iff_eq, beq_eq_false_iff_ne, bne_iff_ne, bne_eq_false_iff_eq, Bool.and_eq_true, Bool.or_eq_true, Bool.and_eq_false_iff, Bool.or_eq_false_iff, inB] at g2'
          refine ql_skip (gw_not rfl rfl g2) rfl ?_
          refine ql_skip (gw_not rfl rfl g2) rfl ?_
          refine ql_skip (gw_not rfl rfl g2) rfl ?_
          refine ql_skip (gw_undef rfl rfl) rfl ?_
          refine ql_skip (gw_undef rfl rfl) rfl ?_
          refine ql_skip (gw_undef rfl rfl) rfl ?_
          refine ql_skip (gw_undef rfl rfl) rfl ?_
          refine ql_skip (gw_undef rfl rfl) rfl ?_
          refine ql_skip (gw_undef rfl rfl) rfl ?_
          refine ql_skip (gw_undef rfl rfl) rfl ?_
          refine ql_skip (gw_undef rfl rfl) rfl ?_
          refine ql_skip (gw_not rfl rfl g2) rfl ?_
          refine ql_val gw_none (ov_pick_f rfl g2 rfl) rfl ?_
          refine ql_nil ?_
          refine rl_nil ?_
          refine at_then ?_
          refine ct_false rfl rfl ?_
          refine ct_skip ?_
          refine at_block ?_
          refine at_then ?_
          refine ct_reg ?_
          refine rl_val gw_none (ov_add rfl rfl (by omega)) rfl ?_
          refine rl_val gw_none (ov_move rfl) rfl ?_
          refine rl_nil ?_
          have hbn := cheapL_no hbest hx (by first | (simp at g2; omega) | (simp at g2 g3 h3; rw [hca]; omega))
          exact at_backR (k + 1, best) ⟨hk2, hbn⟩ (by dsimp only at *; omega) (by (repeat' (first | exact Sub.nil | refine Sub.cons ?_ ?_)); all_goals (first | rfl | exact lkInt rfl (by omega))) (Sub.cons rfl (Sub.cons rfl (Sub.cons rfl (Sub.cons rfl (Sub.cons rfl (Sub.cons rfl Sub.nil)))))) (fun _ hq => hq.drop)
      ·
        have hke : k = ws.length := by omega
        subst hke
        refine ct_exit ?_
        refine at_then_exit ?_
        refine at_then_exit ?_
        refine at_block_hit ?_
        refine at_then ?_
        refine ct_seq ?_
        refine ct_seq ?_
        refine ct_reg ?_
        refine rl_val gw_none (ov_move rfl) rfl ?_
        refine rl_val gw_none (ov_lss rfl rfl) rfl ?_
        refine rl_nil ?_
        refine at_then ?_
        first | refine ct_dec rfl (fun h4 => ?_) (fun h4 => ?_) | refine ct_ndec rfl (fun h4 => ?_) (fun h4 => ?_) | refine ct_eq rfl (fun h4 => ?_) (fun h4 => ?_) | refine ct_ne rfl (fun h4 => ?_) (fun h4 => ?_) | refine ct_not rfl (fun h4 => ?_) (fun h4 => ?_) | refine ct_cond rfl (fun h4 => ?_) (fun h4 => ?_)
        ·
          refine ct_seq ?_
          refine ct_reg ?_
          refine rl_val gw_none (ov_assign rfl) rfl ?_
          refine rl_val gw_none (ov_assign rfl) rfl ?_
          refine rl_nil ?_
          refine at_then ?_
          refine ct_ret ?_
          refine at_then_ret ?_
          refine at_ret2 Try.results21 (ro_tmp rfl) (ro_tmp rfl) (fun w1 hp => ?_)
          refine ⟨?_, hp.ext0⟩
          first | (rw [cheapR_yes hok hin hbest (by assumption)]; done) | (rw [cheapR_no (.inr (.inr (by rw [← hbest]; assumption)))]; done) | (rw [cheapR_no (.inl (by simpa using g1))]; done) | (rw [cheapR_no (.inr (.inl (by simpa using h1)))]; done)
        ·
          refine ct_skip ?_
          refine at_then ?_
          refine ct_seq ?_
          refine ct_reg ?_
          refine rl_val gw_none (ov_move rfl) rfl ?_
          refine rl_val gw_none (ov_assign rfl) rfl ?_
          refine rl_val gw_none (ov_assign rfl) rfl ?_
          refine rl_nil ?_
          refine at_then ?_
          refine ct_ret ?_
          refine at_ret2 Try.results21 (ro_tmp rfl) (ro_tmp rfl) (fun w1 hp => ?_)
          refine ⟨?_, hp.ext0⟩
          first | (rw [cheapR_yes hok hin hbest (by assumption)]; done) | (rw [cheapR_no (.inr (.inr (by rw [← hbest]; assumption)))]; done) | (rw [cheapR_no (.inl (by simpa using g1))]; done) | (rw [cheapR_no (.inr (.inl (by simpa using h1)))]; done)

theorem sCheapestWood_c (ws : List Wood) (hh : Int) (vws : Value) (w : World) (hGws : ∀ y ∈ ws, GWood y) (hsws : SR w 3 vws ws.length (flat encWood ws)) (zhh : In64 hh) : Calls Try.prog 20 ([vws, .int .i64 hh]).toArray w (fun e w' => e = .returned (.tuple #[.int .i64 (cheapR ws hh).1, .bool (cheapR ws hh).2]) ∧ Ext w w') := by
  obtain ⟨aw, capw, rfl, hcapw, hmaxw⟩ := hsws.slice
  have hlenw := hsws.len_le
  refine calls_ct Try.func20 Try.ntmps20 rfl rfl ?_
  refine ct_seq ?_
  refine ct_reg ?_
  refine rl_val gw_none (ov_assign rfl) rfl ?_
  refine rl_val gw_none (ov_assign rfl) rfl ?_
  refine rl_nil ?_
  refine at_then ?_
  refine ct_seq ?_
  refine ct_seq ?_
  refine ct_reg ?_
  refine rl_val gw_none (ov_move rfl) rfl ?_
  refine rl_callv gw_none goes59 rfl (fun w1 hp => l23Woods_c ws _ _ hGws (hsws.ext hp.ext0)) rfl ?_
  refine rl_val gw_none (ov_not rfl) rfl ?_
  refine rl_val gw_none (ov_move rfl) rfl ?_
  refine rl_split (t := 11) rfl (fun g1 => ?_) (fun g1 => ?_)
  ·
    have g1' := g1
    try simp only [Bool.not_eq_true', Bool.not_eq_false', Bool.not_not, decide_eq_true_eq, decide_eq_false_iff_not, beq_iff_eq, beq_eq_false_iff_ne, bne_iff_ne, bne_eq_false_iff_eq, Bool.and_eq_true, Bool.or_eq_true, Bool.and_eq_false_iff, Bool.or_eq_false_iff, inB] at g1'
    refine rl_skip (gw_not rfl rfl g1) rfl ?_
    refine rl_skip (gw_not rfl rfl g1) rfl ?_
    refine rl_skip (gw_not rfl rfl g1) rfl ?_
    refine rl_val gw_none (ov_pick_t rfl g1 rfl) rfl ?_
    refine rl_nil ?_
    refine at_then ?_
    refine ct_true rfl rfl ?_
    refine ct_seq ?_
    refine ct_reg ?_
    refine rl_val gw_none (ov_assign rfl) rfl ?_
    refine rl_val gw_none (ov_assign rfl) rfl ?_
    refine rl_nil ?_
    refine at_then ?_
    refine ct_ret ?_
    refine at_then_ret ?_
    refine at_ret2 Try.results20 (ro_tmp rfl) (ro_tmp rfl) (fun w1 hp => ?_)
    refine ⟨?_, hp.ext0⟩
    first | (rw [cheapR_yes hok hin hbest (by assumption)]; done) | (rw [cheapR_no (.inr (.inr (by rw [← hbest]; assumption)))]; done) | (rw [cheapR_no (.inl (by simpa using g1))]; done) | (rw [cheapR_no (.inr (.inl (by simpa using h1)))]; done)
  ·
    have g1' := g1
    try simp only [Bool.not_eq_true', Bool.not_eq_false', Bool.not_not, decide_eq_true_eq, decide_eq_false_iff_not, beq_iff_eq, beq_eq_false_iff_ne, bne_iff_ne, bne_eq_false_iff_eq, Bool.and_eq_true, Bool.or_eq_true, Bool.and_eq_false_iff, Bool.or_eq_false_iff, inB] at g1'
    refine rl_val (gw_some rfl rfl g1) (ov_move rfl) rfl ?_
    refine rl_callv (gw_some rfl rfl g1) goes64 rfl (fun w1 hp => l1In_c _ _ _ _) rfl ?_
    refine rl_val (gw_some rfl rfl g1) (ov_not rfl) rfl ?_
    refine rl_val gw_none (ov_pick_f rfl g1 rfl) rfl ?_
    refine rl_nil ?_
    refine at_then ?_
    first | refine ct_dec rfl (fun h1 => ?_) (fun h1 => ?_) | refine ct_ndec rfl (fun h1 => ?_) (fun h1 => ?_) | refine ct_eq rfl (fun h1 => ?_) (fun h1 => ?_) | refine ct_ne rfl (fun h1 => ?_) (fun h1 => ?_) | refine ct_not rfl (fun h1 => ?_) (fun h1 => ?_) | refine ct_cond rfl (fun h1 => ?_) (fun h1 => ?_)
    ·
      refine ct_seq ?_
      refine ct_reg ?_
      refine rl_val gw_none (ov_assign rfl) rfl ?_
      refine rl_val gw_none (ov_assign rfl) rfl ?_
      refine rl_nil ?_
      refine at_then ?_
      refine ct_ret ?_
      refine at_then_ret ?_
      refine at_ret2 Try.results20 (ro_tmp rfl) (ro_tmp rfl) (fun w1 hp => ?_)
      refine ⟨?_, hp.ext0⟩
      first | (rw [cheapR_yes hok hin hbest (by assumption)]; done) | (rw [cheapR_no (.inr (.inr (by rw [← hbest]; assumption)))]; done) | (rw [cheapR_no (.inl (by simpa using g1))]; done) | (rw [cheapR_no (.inr (.inl (by simpa using h1)))]; done)
    ·
      have hok : woodsB ws = true := by simpa using g1
      have hin : inB hh 1 100 = true := by simpa using h1
      refine ct_skip ?_
      refine at_then ?_
      refine ct_seq ?_
      refine ct_reg ?_
      refine rl_val gw_none (ov_assign rfl) rfl ?_
      refine rl_nil ?_
      refine at_then ?_
      refine ct_seq ?_
      refine ct_seq ?_
      refine ct_reg ?_
      refine rl_val gw_none (ov_assign rfl) rfl ?_
      refine rl_nil ?_
      refine at_then ?_
      refine ct_block ?_
      refine ct_loopR (ι := Nat × Int) (fun p => [(6, .int .i64 p.2), (7, .int .i64 p.1)]) [(0, _), (1, _), (4, _), (5, _)] (fun _ => _) (fun p => p.1 ≤ ws.length ∧ p.2 = cheapL ws hh p.1) (fun p => ws.length - p.1) ((0, -1)) (Sub.cons rfl (Sub.cons rfl (Sub.cons rfl (Sub.cons rfl Sub.nil)))) (fun _ hq => hq) (by (repeat' (first | exact Sub.nil | refine Sub.cons ?_ ?_)); all_goals (first | rfl | exact lkInt rfl (by omega))) ⟨Nat.zero_le _, rfl⟩ (fun p hp0 => ?_)
      obtain ⟨k, best⟩ := p
      obtain ⟨hk, hbest⟩ := hp0
      dsimp only at hk hbest
      refine ct_seq ?_
      refine ct_seq ?_
      refine ct_reg ?_
      refine rl_val gw_none (ov_move rfl) rfl ?_
      refine rl_val gw_none (ov_move rfl) rfl ?_
      refine rl_val gw_none (ov_len Try.underlying25 rfl) rfl ?_
      refine rl_val gw_none (ov_lss rfl rfl) rfl ?_
      refine rl_nil ?_
      refine at_then ?_
      first | refine ct_dec rfl (fun h2 => ?_) (fun h2 => ?_) | refine ct_ndec rfl (fun h2 => ?_) (fun h2 => ?_) | refine ct_eq rfl (fun h2 => ?_) (fun h2 => ?_) | refine ct_ne rfl (fun h2 => ?_) (fun h2 => ?_) | refine ct_not rfl (fun h2 => ?_) (fun h2 => ?_) | refine ct_cond rfl (fun h2 => ?_) (fun h2 => ?_)
      ·
        have hk2 : k < ws.length := by omega
        obtain ⟨b, o, rfl, hel⟩ := hsws.elem encWood_len (by omega) hk2
        have hx := getLt hk2
        have hgx := hGws _ (List.getElem_mem hk2)
        generalize ws[k] = x at *
        have hcx := hel k x hx
        obtain ⟨c0, c1, c2, _⟩ := hel k x hx
        have hnx : x.name.size ≤ maxLen := hgx.1
        have hlt := cheapL_lt ws hh k
        have hlt2 : 0 ≤ best → best < k := by omega
        refine ct_skip ?_
        refine at_then ?_
        refine ct_seq ?_
        refine ct_block ?_
        refine ct_seq ?_
        refine ct_dr 24 (by kernel_rfl) (by kernel_rfl) ?_
        refine ql_val gw_none (ov_move rfl) rfl ?_
        refine ql_val gw_none (ov_move rfl) rfl ?_
        first | refine ql_val gw_none (ov_ix Try.underlying25 sz67 rfl rfl _ rfl (by omega)) rfl ?_ | refine ql_val gw_none (ov_ix Try.underlying25 sz67 rfl rfl (best.toNat) (by omega) (by omega)) rfl ?_
        refine ql_val gw_none (ov_field fo67_1 rfl) rfl ?_
        first | refine ql_val gw_none (ov_load 0 sc3 rfl rfl rfl) rfl ?_ | refine ql_val gw_none (ov_load 1 sc3 rfl rfl rfl) rfl ?_ | refine ql_val gw_none (ov_load 2 sc3 rfl rfl rfl) rfl ?_ | refine ql_val gw_none (ov_load 3 sc3 rfl rfl rfl) rfl ?_ | refine ql_val gw_none (ov_loadw sc3 rfl (by assumption)) rfl ?_ | refine ql_val gw_none (ov_load 0 sc3 rfl rfl (by assumption)) rfl ?_ | refine ql_val gw_none (ov_load 1 sc3 rfl rfl (by assumption)) rfl ?_ | refine ql_val gw_none (ov_load 2 sc3 rfl rfl (by assumption)) rfl ?_ | refine ql_val gw_none (ov_load 3 sc3 rfl rfl (by assumption)) rfl ?_
        refine ql_val gw_none (ov_move rfl) rfl ?_
        refine ql_val gw_none (ov_geq rfl rfl) rfl ?_
        refine ql_val gw_none (ov_move rfl) rfl ?_
        refine ql_split (t := 29) rfl (fun g2 => ?_) (fun g2 => ?_)
        ·
          have g2' := g2
          try simp only [Bool.not_eq_true', Bool.not_eq_false', Bool.not_not, decide_eq_true_eq, decide_eq_false_iff_not, beq_iff_eq, beq_eq_false_iff_ne, bne_iff_ne, bne_eq_false_iff_eq, Bool.and_eq_true, Bool.or_eq_true, Bool.and_eq_false_iff, Bool.or_eq_false_iff, inB] at g2'
          refine ql_val (gw_some rfl rfl g2) (ov_move rfl) rfl ?_
          refine ql_val (gw_some rfl rfl g2) (ov_lss rfl rfl) rfl ?_
          refine ql_val (gw_some rfl rfl g2) (ov_move rfl) rfl ?_
          refine ql_split (t := 32) rfl (fun g3 => ?_) (fun g3 => ?_)
          ·
            skip
            refine ql_skip (gw_not rfl rfl g3) rfl ?_
            refine ql_skip (gw_not rfl rfl g3) rfl ?_
            refine ql_skip (gw_not rfl rfl g3) rfl ?_
            refine ql_skip (gw_not rfl rfl g3) rfl ?_
            refine ql_skip (gw_not rfl rfl g3) rfl ?_
            refine ql_skip (gw_not rfl rfl g3) rfl ?_
            refine ql_skip (gw_not rfl rfl g3) rfl ?_
            refine ql_skip (gw_not rfl rfl g3) rfl ?_
            refine ql_skip (gw_not rfl rfl g3) rfl ?_
            refine ql_skip (gw_not rfl rfl g3) rfl ?_
            refine ql_skip (gw_not rfl rfl g3) rfl ?_
            refine ql_val (gw_some rfl rfl g2) (ov_pick_t rfl g3 rfl) rfl ?_
            refine ql_val gw_none (ov_pick_t rfl g2 rfl) rfl ?_
            refine ql_nil ?_
            refine rl_nil ?_
            refine at_then ?_
            refine ct_true rfl rfl ?_
            refine ct_reg ?_
            refine rl_val gw_none (ov_move rfl) rfl ?_
            refine rl_val gw_none (ov_assign rfl) rfl ?_
            refine rl_nil ?_
            refine at_block ?_
            refine at_then ?_
            refine ct_reg ?_
            refine rl_val gw_none (ov_move rfl) rfl ?_
            refine rl_val gw_none (ov_add rfl rfl (by omega)) rfl ?_
            refine rl_val gw_none (ov_assign rfl) rfl ?_
            refine rl_nil ?_
            have hbn := cheapL_yes hbest hx (by first | omega | (simp at g2; omega)) (by first | (left; simpa using g3) | (right; rw [hca]; simpa using h3))
            exact at_backR (k + 1, (k : Int)) ⟨hk2, hbn⟩ (by dsimp only at *; omega) (by (repeat' (first | exact Sub.nil | refine Sub.cons ?_ ?_)); all_goals (first | rfl | exact lkInt rfl (by omega))) (Sub.cons rfl (Sub.cons rfl (Sub.cons rfl (Sub.cons rfl Sub.nil)))) (fun _ hq => hq)
          ·
            have g3n := of_decide_eq_false g3
            have hb0 : best.toNat < ws.length := by omega
            obtain ⟨y, hy⟩ : ∃ y, ws[best.toNat]? = some y := ⟨_, getLt hb0⟩
            have hcy := hel _ y hy
            obtain ⟨d0, d1, d2, _⟩ := hel _ y hy
            have hca := costAt_eq hy
            refine ql_val (gw_some rfl rfl g3) (ov_move rfl) rfl ?_
            refine ql_val (gw_some rfl rfl g3) (ov_move rfl) rfl ?_
            first | refine ql_val (gw_some rfl rfl g3) (ov_ix Try.underlying25 sz67 rfl rfl _ rfl (by omega)) rfl ?_ | refine ql_val (gw_some rfl rfl g3) (ov_ix Try.underlying25 sz67 rfl rfl (best.toNat) (by omega) (by omega)) rfl ?_
            refine ql_val (gw_some rfl rfl g3) (ov_field fo67_2 rfl) rfl ?_
            first | refine ql_val (gw_some rfl rfl g3) (ov_load 0 sc3 rfl rfl rfl) rfl ?_ | refine ql_val (gw_some rfl rfl g3) (ov_load 1 sc3 rfl rfl rfl) rfl ?_ | refine ql_val (gw_some rfl rfl g3) (ov_load 2 sc3 rfl rfl rfl) rfl ?_ | refine ql_val (gw_some rfl rfl g3) (ov_load 3 sc3 rfl rfl rfl) rfl ?_ | refine ql_val (gw_some rfl rfl g3) (ov_loadw sc3 rfl (by assumption)) rfl ?_ | refine ql_val (gw_some rfl rfl g3) (ov_load 0 sc3 rfl rfl (by assumption)) rfl ?_ | refine ql_val (gw_some rfl rfl g3) (ov_load 1 sc3 rfl rfl (by assumption)) rfl ?_ | refine ql_val (gw_some rfl rfl g3) (ov_load 2 sc3 rfl rfl (by assumption)) rfl ?_ | refine ql_val (gw_some rfl rfl g3) (ov_load 3 sc3 rfl rfl (by assumption)) rfl ?_
            refine ql_val (gw_some rfl rfl g3) (ov_move rfl) rfl ?_
            refine ql_val (gw_some rfl rfl g3) (ov_move rfl) rfl ?_
            first | refine ql_val (gw_some rfl rfl g3) (ov_ix Try.underlying25 sz67 rfl rfl _ rfl (by omega)) rfl ?_ | refine ql_val (gw_some rfl rfl g3) (ov_ix Try.underlying25 sz67 rfl rfl (best.toNat) (by omega) (by omega)) rfl ?_
            refine ql_val (gw_some rfl rfl g3) (ov_field fo67_2 rfl) rfl ?_
            first | refine ql_val (gw_some rfl rfl g3) (ov_load 0 sc3 rfl rfl rfl) rfl ?_ | refine ql_val (gw_some rfl rfl g3) (ov_load 1 sc3 rfl rfl rfl) rfl ?_ | refine ql_val (gw_some rfl rfl g3) (ov_load 2 sc3 rfl rfl rfl) rfl ?_ | refine ql_val (gw_some rfl rfl g3) (ov_load 3 sc3 rfl rfl rfl) rfl ?_ | refine ql_val (gw_some rfl rfl g3) (ov_loadw sc3 rfl (by assumption)) rfl ?_ | refine ql_val (gw_some rfl rfl g3) (ov_load 0 sc3 rfl rfl (by assumption)) rfl ?_ | refine ql_val (gw_some rfl rfl g3) (ov_load 1 sc3 rfl rfl (by assumption)) rfl ?_ | refine ql_val (gw_some rfl rfl g3) (ov_load 2 sc3 rfl rfl (by assumption)) rfl ?_ | refine ql_val (gw_some rfl rfl g3) (ov_load 3 sc3 rfl rfl (by assumption)) rfl ?_
            refine ql_val (gw_some rfl rfl g3) (ov_lss rfl rfl) rfl ?_
            refine ql_val (gw_some rfl rfl g2) (ov_pick_f rfl g3 rfl) rfl ?_
            refine ql_val gw_none (ov_pick_t rfl g2 rfl) rfl ?_
            refine ql_nil ?_
            refine rl_nil ?_
            refine at_then ?_
            first | refine ct_dec rfl (fun h3 => ?_) (fun h3 => ?_) | refine ct_ndec rfl (fun h3 => ?_) (fun h3 => ?_) | refine ct_eq rfl (fun h3 => ?_) (fun h3 => ?_) | refine ct_ne rfl (fun h3 => ?_) (fun h3 => ?_) | refine ct_not rfl (fun h3 => ?_) (fun h3 => ?_) | refine ct_cond rfl (fun h3 => ?_) (fun h3 => ?_)
            ·
              refine ct_reg ?_
              refine rl_val gw_none (ov_move rfl) rfl ?_
              refine rl_val gw_none (ov_assign rfl) rfl ?_
              refine rl_nil ?_
              refine at_block ?_
              refine at_then ?_
              refine ct_reg ?_
              refine rl_val gw_none (ov_move rfl) rfl ?_
              refine rl_val gw_none (ov_add rfl rfl (by omega)) rfl ?_
              refine rl_val gw_none (ov_assign rfl) rfl ?_
              refine rl_nil ?_
              have hbn := cheapL_yes hbest hx (by first | omega | (simp at g2; omega)) (by first | (left; simpa using g3) | (right; rw [hca]; simpa using h3))
              exact at_backR (k + 1, (k : Int)) ⟨hk2, hbn⟩ (by dsimp only at *; omega) (by (repeat' (first | exact Sub.nil | refine Sub.cons ?_ ?_)); all_goals (first | rfl | exact lkInt rfl (by omega))) (Sub.cons rfl (Sub.cons rfl (Sub.cons rfl (Sub.cons rfl Sub.nil)))) (fun _ hq => hq)
            ·
              refine ct_skip ?_
              refine at_block ?_
              refine at_then ?_
              refine ct_reg ?_
              refine rl_val gw_none (ov_move rfl) rfl ?_
              refine rl_val gw_none (ov_add rfl rfl (by omega)) rfl ?_
              refine rl_val gw_none (ov_assign rfl) rfl ?_
              refine rl_nil ?_
              have hbn := cheapL_no hbest hx (by first | (simp at g2; omega) | (simp at g2 g3 h3; rw [hca]; omega))
              exact at_backR (k + 1, best) ⟨hk2, hbn⟩ (by dsimp only at *; omega) (by (repeat' (first | exact Sub.nil | refine Sub.cons ?_ ?_)); all_goals (first | rfl | exact lkInt rfl (by omega))) (Sub.cons rfl (Sub.cons rfl (Sub.cons rfl (Sub.cons rfl Sub.nil)))) (fun _ hq => hq)
        ·
          have g2' := g2
          try simp only [Bool.not_eq_true', Bool.not_eq_false', Bool.not_not, decide_eq_true_eq, decide_eq_false_iff_not, beq_iff_eq, beq_eq_false_iff_ne, bne_iff_ne, bne_eq_false_iff_eq, Bool.and_eq_true, Bool.or_eq_true, Bool.and_eq_false_iff, Bool.or_eq_false_iff, inB] at g2'
          refine ql_skip (gw_not rfl rfl g2) rfl ?_
          refine ql_skip (gw_not rfl rfl g2) rfl ?_
          refine ql_skip (gw_not rfl rfl g2) rfl ?_
          refine ql_skip (gw_undef rfl rfl) rfl ?_
          refine ql_skip (gw_undef rfl rfl) rfl ?_
          refine ql_skip (gw_undef rfl rfl) rfl ?_
          refine ql_skip (gw_undef rfl rfl) rfl ?_
          refine ql_skip (gw_undef rfl rfl) rfl ?_
          refine ql_skip (gw_undef rfl rfl) rfl ?_
          refine ql_skip (gw_undef rfl rfl) rfl ?_
          refine ql_skip (gw_undef rfl rfl) rfl ?_
          refine ql_skip (gw_undef rfl rfl) rfl ?_
          refine ql_skip (gw_undef rfl rfl) rfl ?_
          refine ql_skip (gw_undef rfl rfl) rfl ?_
          refine ql_skip (gw_not rfl rfl g2) rfl ?_
          refine ql_val gw_none (ov_pick_f rfl g2 rfl) rfl ?_
          refine ql_nil ?_
          refine rl_nil ?_
          refine at_then ?_
          refine ct_false rfl rfl ?_
          refine ct_skip ?_
          refine at_block ?_
          refine at_then ?_
          refine ct_reg ?_
          refine rl_val gw_none (ov_move rfl) rfl ?_
          refine rl_val gw_none (ov_add rfl rfl (by omega)) rfl ?_
          refine rl_val gw_none (ov_assign rfl) rfl ?_
          refine rl_nil ?_
          have hbn := cheapL_no hbest hx (by first | (simp at g2; omega) | (simp at g2 g3 h3; rw [hca]; omega))
          exact at_backR (k + 1, best) ⟨hk2, hbn⟩ (by dsimp only at *; omega) (by (repeat' (first | exact Sub.nil | refine Sub.cons ?_ ?_)); all_goals (first | rfl | exact lkInt rfl (by omega))) (Sub.cons rfl (Sub.cons rfl (Sub.cons rfl (Sub.cons rfl Sub.nil)))) (fun _ hq => hq)
      ·
        have hke : k = ws.length := by omega
        subst hke
        refine ct_exit ?_
        refine at_then_exit ?_
        refine at_then_exit ?_
        refine at_block_hit ?_
        refine at_then ?_
        refine ct_seq ?_
        refine ct_seq ?_
        refine ct_reg ?_
        refine rl_val gw_none (ov_move rfl) rfl ?_
        refine rl_val gw_none (ov_lss rfl rfl) rfl ?_
        refine rl_nil ?_
        refine at_then ?_
        first | refine ct_dec rfl (fun h4 => ?_) (fun h4 => ?_) | refine ct_ndec rfl (fun h4 => ?_) (fun h4 => ?_) | refine ct_eq rfl (fun h4 => ?_) (fun h4 => ?_) | refine ct_ne rfl (fun h4 => ?_) (fun h4 => ?_) | refine ct_not rfl (fun h4 => ?_) (fun h4 => ?_) | refine ct_cond rfl (fun h4 => ?_) (fun h4 => ?_)
        ·
          refine ct_seq ?_
          refine ct_reg ?_
          refine rl_val gw_none (ov_assign rfl) rfl ?_
          refine rl_val gw_none (ov_assign rfl) rfl ?_
          refine rl_nil ?_
          refine at_then ?_
          refine ct_ret ?_
          refine at_then_ret ?_
          refine at_ret2 Try.results20 (ro_tmp rfl) (ro_tmp rfl) (fun w1 hp => ?_)
          refine ⟨?_, hp.ext0⟩
          first | (rw [cheapR_yes hok hin hbest (by assumption)]; done) | (rw [cheapR_no (.inr (.inr (by rw [← hbest]; assumption)))]; done) | (rw [cheapR_no (.inl (by simpa using g1))]; done) | (rw [cheapR_no (.inr (.inl (by simpa using h1)))]; done)
        ·
          refine ct_skip ?_
          refine at_then ?_
          refine ct_seq ?_
          refine ct_reg ?_
          refine rl_val gw_none (ov_move rfl) rfl ?_
          refine rl_val gw_none (ov_assign rfl) rfl ?_
          refine rl_val gw_none (ov_assign rfl) rfl ?_
          refine rl_nil ?_
          refine at_then ?_
          refine ct_ret ?_
          refine at_ret2 Try.results20 (ro_tmp rfl) (ro_tmp rfl) (fun w1 hp => ?_)
          refine ⟨?_, hp.ext0⟩
          first | (rw [cheapR_yes hok hin hbest (by assumption)]; done) | (rw [cheapR_no (.inr (.inr (by rw [← hbest]; assumption)))]; done) | (rw [cheapR_no (.inl (by simpa using g1))]; done) | (rw [cheapR_no (.inr (.inl (by simpa using h1)))]; done)
end Go.Proofs.Ytaajkamfeaafpaa
