import Derived.Test.YtfelindekikaeaaTc
import Derived.Test.YtfelindekikaeaaTf
import Derived.Test.YtfelindekikaeaaIc
import Derived.KernelRfl
set_option linter.unusedVariables false
set_option linter.unusedSimpArgs false
namespace Go.Proofs.Ytfelindekikaeaa
open Go Go.RowKit K
theorem iShowOne_c (xs : List Exhibit) (room : Int) (vxs : Value) (w : World) (hGxs : ∀ y ∈ xs, GExhibit y) (hsxs : SR w 7 vxs xs.length (flat encExhibit xs)) (zroom : In64 room) : Calls Try.prog 45 ([vxs, .int .i64 room]).toArray w (fun e w' => RetSl 3 1 (ints (shR xs room)) ((shR xs room).length) (fun s => .tuple #[s, .bool (shB xs room)]) w e w') := by
  obtain ⟨axs, capxs, rfl, hcapxs, hmaxxs⟩ := hsxs.slice
  have hlenxs := hsxs.len_le
  refine calls_ct Try.func45 Try.ntmps45 rfl rfl ?_
  refine ct_seq ?_
  refine ct_reg ?_
  refine rl_val gw_none (ov_assign rfl) rfl ?_
  refine rl_val gw_none (ov_assign rfl) rfl ?_
  refine rl_nil ?_
  refine at_then ?_
  refine ct_seq ?_
  refine ct_seq ?_
  refine ct_reg ?_
  refine rl_val gw_none (ov_move rfl) rfl ?_
  refine rl_callv gw_none goes43 rfl (fun w1 hp => iAreExhibits_c xs _ _ hGxs (hsxs.ext hp.ext0)) rfl ?_
  refine rl_val gw_none (ov_not rfl) rfl ?_
  refine rl_val gw_none (ov_move rfl) rfl ?_
  refine rl_split (t := 16) rfl (fun g1 => ?_) (fun g1 => ?_)
  ·
    have g1' := g1
    try simp only [Bool.not_eq_true', Bool.not_eq_false', Bool.not_not, decide_eq_true_eq, decide_eq_false_iff_not, beq_iff_eq, beq_eq_false_iff_ne, bne_iff_ne, bne_eq_false_iff_eq, Bool.and_eq_true, Bool.or_eq_true, Bool.and_eq_false_iff, Bool.or_eq_false_iff, inB] at g1'
    refine rl_skip (gw_not rfl rfl g1) rfl ?_
    refine rl_skip (gw_not rfl rfl g1) rfl ?_
    refine rl_skip (gw_not rfl rfl g1) rfl ?_
    refine rl_val gw_none (ov_pick_t rfl g1 rfl) rfl ?_
    refine rl_nil ?_
    refine at_then ?_
    refine ct_true rfl rfl ?_
    refine ct_seq ?_
    refine ct_reg ?_
    refine rl_val gw_none (ov_assign rfl) rfl ?_
    refine rl_val gw_none (ov_assign rfl) rfl ?_
    refine rl_nil ?_
    refine at_then ?_
    refine ct_ret ?_
    refine at_then_ret ?_
    refine at_ret2 Try.results45 (ro_tmp rfl) (ro_tmp rfl) (fun w1 hp => ?_)
    first | (rw [shR_yes hB, hB, show chR (ageL xs) room = (chR ((ageL xs).take (ageL xs).length) room) by rw [List.take_length]]; exact RetSl.own 999 hp rfl hsm) | (have hb : shB xs room = false := shB_no (by first | (left; simpa using g1) | (right; simpa using h1)); rw [shR_no hb, hb]; first | exact RetSl.nil hp.ext0 | exact RetSl.lit 0 hp rfl rfl (by decide))
  ·
    have g1' := g1
    try simp only [Bool.not_eq_true', Bool.not_eq_false', Bool.not_not, decide_eq_true_eq, decide_eq_false_iff_not, beq_iff_eq, beq_eq_false_iff_ne, bne_iff_ne, bne_eq_false_iff_eq, Bool.and_eq_true, Bool.or_eq_true, Bool.and_eq_false_iff, Bool.or_eq_false_iff, inB] at g1'
    refine rl_val (gw_some rfl rfl g1) (ov_move rfl) rfl ?_
    refine rl_callv (gw_some rfl rfl g1) goes69 rfl (fun w1 hp => within_c _ _ _ _) rfl ?_
    refine rl_val (gw_some rfl rfl g1) (ov_not rfl) rfl ?_
    refine rl_val gw_none (ov_pick_f rfl g1 rfl) rfl ?_
    refine rl_nil ?_
    refine at_then ?_
    first | refine ct_dec rfl (fun h1 => ?_) (fun h1 => ?_) | refine ct_ndec rfl (fun h1 => ?_) (fun h1 => ?_) | refine ct_eq rfl (fun h1 => ?_) (fun h1 => ?_) | refine ct_ne rfl (fun h1 => ?_) (fun h1 => ?_) | refine ct_not rfl (fun h1 => ?_) (fun h1 => ?_) | refine ct_cond rfl (fun h1 => ?_) (fun h1 => ?_)
    ·
      refine ct_seq ?_
      refine ct_reg ?_
      refine rl_val gw_none (ov_assign rfl) rfl ?_
      refine rl_val gw_none (ov_assign rfl) rfl ?_
      refine rl_nil ?_
      refine at_then ?_
      refine ct_ret ?_
      refine at_then_ret ?_
      refine at_ret2 Try.results45 (ro_tmp rfl) (ro_tmp rfl) (fun w1 hp => ?_)
      first | (rw [shR_yes hB, hB, show chR (ageL xs) room = (chR ((ageL xs).take (ageL xs).length) room) by rw [List.take_length]]; exact RetSl.own 999 hp rfl hsm) | (have hb : shB xs room = false := shB_no (by first | (left; simpa using g1) | (right; simpa using h1)); rw [shR_no hb, hb]; first | exact RetSl.nil hp.ext0 | exact RetSl.lit 0 hp rfl rfl (by decide))
    ·
      have hok : exhsB xs = true := by simpa using g1
      have hrb : inB room 0 500 = true := by simpa using h1
      have hB : shB xs room = true := by unfold shB; rw [hok, hrb]; rfl
      have hrr := (shB_ok hB).2
      have h10 := exhsB_len hok
      have hol : (ageL xs).length = xs.length := ordG_len xs
      refine ct_skip ?_
      refine at_then ?_
      refine ct_seq ?_
      refine ct_reg ?_
      refine rl_val gw_none (ov_assign rfl) rfl ?_
      refine rl_nil ?_
      refine at_then ?_
      refine ct_seq ?_
      refine ct_reg ?_
      refine rl_val gw_none (ov_assign rfl) rfl ?_
      refine rl_nil ?_
      refine at_then ?_
      refine ct_seq ?_
      refine ct_seq ?_
      refine ct_reg ?_
      refine rl_val gw_none (ov_move rfl) rfl ?_
      refine rl_callsl (ι := Nat × List Value) (fun i bo => sv bo (ageL xs).length i.1) (fun i => flat encExhibit (ageL xs) ++ i.2) (fun i bo => Sl 7 bo (ageL xs).length i.1 (flat encExhibit (ageL xs)) i.2) goes56 rfl (fun w1 hp => byAge_c xs _ _ hGxs (hsxs.ext hp.ext0) h10) rfl (fun iod bood hsod => ?_)
      refine rl_val gw_none (ov_len Try.underlying27 rfl) rfl ?_
      refine rl_val gw_none (ov_move rfl) rfl ?_
      refine rl_nil ?_
      refine at_then ?_
      refine ct_block ?_
      refine ct_loopR (ι := Nat × (Option Nat × Nat × List Value) × (Option Nat × Nat × List Value)) (fun p0 => [(1, .int .i64 (room - sumR (chR ((ageL xs).take p0.1) room))), (6, sv p0.2.1.1 (chR ((ageL xs).take p0.1) room).length p0.2.1.2.1), (7, sv p0.2.2.1 (ids (chR ((ageL xs).take p0.1) room)).length p0.2.2.2.1), (24, .int .i64 p0.1)]) [(4, _), (5, _), (22, _), (23, _)] (fun p0 => [(p0.2.1.1, 46, flat encExhibit (chR ((ageL xs).take p0.1) room) ++ p0.2.1.2.2), (p0.2.2.1, 3, ints (ids (chR ((ageL xs).take p0.1) room)) ++ p0.2.2.2.2), _]) (fun p0 => p0.1 ≤ (ageL xs).length ∧ Sl 7 p0.2.1.1 (chR ((ageL xs).take p0.1) room).length p0.2.1.2.1 (flat encExhibit (chR ((ageL xs).take p0.1) room)) p0.2.1.2.2 ∧ Sl 1 p0.2.2.1 (ids (chR ((ageL xs).take p0.1) room)).length p0.2.2.2.1 (ints (ids (chR ((ageL xs).take p0.1) room))) p0.2.2.2.2) (fun p0 => (ageL xs).length - p0.1) ((0, (none, 0, []), (none, 0, []))) (Sub.cons rfl (Sub.cons rfl (Sub.cons rfl (Sub.cons rfl Sub.nil)))) (fun _ hp => ((((Hp.sub (Hp.pull hp 0 rfl) (List.sublist_append_left [_] _))).nil 3).nil 46).cong rfl) (by dsimp only; (repeat' (first | exact Sub.nil | refine Sub.cons ?_ ?_)); all_goals (first | rfl | exact lkInt rfl (by show room = room - 0; omega))) ⟨Nat.zero_le _, Sl.nil0 _, Sl.nil0 _⟩ (fun p0 hp0 => ?_)
      obtain ⟨k, ⟨bo, cap, pad⟩, ⟨bo2, cap2, pad2⟩⟩ := p0
      obtain ⟨hk, hsl, hsm⟩ := hp0
      dsimp only at hk hsl hsm
      try dsimp only
      have hcl := chR_len (ys := (ageL xs)) (room := room) k
      have hil := ids_len (chR ((ageL xs).take k) room)
      have hrb2 := sumR_bd (chR_rods hok room k) (chR ((ageL xs).take k) room).length
      rw [List.take_length] at hrb2
      refine ct_seq ?_
      refine ct_reg ?_
      refine rl_val gw_none (ov_lss rfl rfl) rfl ?_
      refine rl_nil ?_
      refine at_then ?_
      refine ct_seq ?_
      first | refine ct_dec rfl (fun h2 => ?_) (fun h2 => ?_) | refine ct_ndec rfl (fun h2 => ?_) (fun h2 => ?_) | refine ct_eq rfl (fun h2 => ?_) (fun h2 => ?_) | refine ct_ne rfl (fun h2 => ?_) (fun h2 => ?_) | refine ct_not rfl (fun h2 => ?_) (fun h2 => ?_) | refine ct_cond rfl (fun h2 => ?_) (fun h2 => ?_)
      ·
        have hk2 : k < (ageL xs).length := by omega
        obtain ⟨bo0, rfl⟩ := slSomeG hsod (by omega)
        have hy := getLt hk2
        have hyb := exhsB_mem hok _ (ordG_mem.1 (List.getElem_mem hk2))
        generalize (ageL xs)[k] = y at *
        have hx := hy
        have hyr := exhB_bd hyb
        refine ct_skip ?_
        refine at_then ?_
        refine ct_seq ?_
        refine ct_block ?_
        refine ct_seq ?_
        refine ct_reg ?_
        first | refine rl_val gw_none (ov_ix Try.underlying27 sz46 rfl rfl _ rfl (by omega)) rfl ?_ | refine rl_val gw_none (ov_ix Try.underlying27 sz46 rfl rfl (k) (by omega) (by omega)) rfl ?_ | refine rl_val gw_none (ov_ix Try.underlying27 sz46 rfl rfl (j) (by omega) (by omega)) rfl ?_
        refine rl_val gw_none (ov_loada 2 ag46 rfl rfl (vs := encExhibit y) rfl (flatCells encExhibit_len hy _)) rfl ?_
        refine rl_alloc ze46 rfl (fun N1 => ?_)
        refine rl_store [] sz46 rfl rfl rfl rfl rfl (Nat.le_of_ble_eq_true rfl) ?_
        refine rl_nil ?_
        refine at_then ?_
        refine ct_seq ?_
        refine ct_reg ?_
        refine rl_val gw_none (ov_field fo46_5 rfl) rfl ?_
        first | refine rl_val gw_none (ov_load 0 sc3 rfl rfl rfl) rfl ?_ | refine rl_val gw_none (ov_load 0 sc3 rfl rfl (by assumption)) rfl ?_
        refine rl_val gw_none (ov_move rfl) rfl ?_
        refine rl_val gw_none (ov_leq rfl rfl) rfl ?_
        refine rl_val gw_none (ov_assign rfl) rfl ?_
        refine rl_nil ?_
        refine at_then ?_
        refine ct_seq ?_
        refine ct_seq ?_
        refine ct_reg ?_
        refine rl_val gw_none (ov_move rfl) rfl ?_
        refine rl_val gw_none (ov_len Try.underlying27 rfl) rfl ?_
        refine rl_val gw_none (ov_move rfl) rfl ?_
        refine rl_nil ?_
        refine at_then ?_
        refine ct_block ?_
        refine ct_loopR (ι := Nat) (fun j => [(10, .bool (decide (y.rods ≤ room - sumR (chR ((ageL xs).take k) room)) && !(anyK y ((chR ((ageL xs).take k) room).take j)))), (34, .int .i64 j)]) [(1, _), (4, _), (5, _), (6, _), (7, _), (9, _), (22, _), (23, _), (24, _), (32, _), (33, _)] (fun _ => _) (fun j => j ≤ (chR ((ageL xs).take k) room).length) (fun j => (chR ((ageL xs).take k) room).length - j) (0) (Sub.cons rfl (Sub.cons rfl (Sub.cons rfl (Sub.cons rfl (Sub.cons rfl (Sub.cons rfl (Sub.cons rfl (Sub.cons rfl (Sub.cons rfl (Sub.cons rfl (Sub.cons rfl Sub.nil))))))))))) (fun _ hq => hq) (by (repeat' (first | exact Sub.nil | refine Sub.cons ?_ ?_)); all_goals (first | rfl | exact lkInt rfl (by omega) | exact lkB rfl (by rw [anyK_zero, Bool.not_false, Bool.and_true]))) (by first | exact True.intro | omega | (dsimp only; omega) | (dsimp only at *; omega)) (fun j hj => ?_)
        refine ct_seq ?_
        refine ct_reg ?_
        refine rl_val gw_none (ov_lss rfl rfl) rfl ?_
        refine rl_nil ?_
        refine at_then ?_
        refine ct_seq ?_
        first | refine ct_dec rfl (fun h3 => ?_) (fun h3 => ?_) | refine ct_ndec rfl (fun h3 => ?_) (fun h3 => ?_) | refine ct_eq rfl (fun h3 => ?_) (fun h3 => ?_) | refine ct_ne rfl (fun h3 => ?_) (fun h3 => ?_) | refine ct_not rfl (fun h3 => ?_) (fun h3 => ?_) | refine ct_cond rfl (fun h3 => ?_) (fun h3 => ?_)
        ·
          have hj2 : j < (chR ((ageL xs).take k) room).length := by omega
          obtain ⟨bj, rfl⟩ := slSomeG hsl (by omega)
          have hc := getLt hj2
          have hcb := chR_rods hok room k _ (List.getElem_mem hj2)
          generalize (chR ((ageL xs).take k) room)[j] = c at *
          refine ct_skip ?_
          refine at_then ?_
          refine ct_seq ?_
          refine ct_block ?_
          refine ct_seq ?_
          refine ct_reg ?_
          first | refine rl_val gw_none (ov_ix Try.underlying27 sz46 rfl rfl _ rfl (by omega)) rfl ?_ | refine rl_val gw_none (ov_ix Try.underlying27 sz46 rfl rfl (k) (by omega) (by omega)) rfl ?_ | refine rl_val gw_none (ov_ix Try.underlying27 sz46 rfl rfl (j) (by omega) (by omega)) rfl ?_
          refine rl_val gw_none (ov_loada 1 ag46 rfl rfl (vs := encExhibit c) rfl (flatCells encExhibit_len hc _)) rfl ?_
          refine rl_alloc ze46 rfl (fun N2 => ?_)
          refine rl_store [] sz46 rfl rfl rfl rfl rfl (Nat.le_of_ble_eq_true rfl) ?_
          refine rl_nil ?_
          refine at_then ?_
          refine ct_reg ?_
          refine rl_val gw_none (ov_move rfl) rfl ?_
          refine rl_val gw_none (ov_move rfl) rfl ?_
          refine rl_split (t := 39) rfl (fun g2 => ?_) (fun g2 => ?_)
          ·
            have g2' := g2
            try simp only [Bool.not_eq_true', Bool.not_eq_false', Bool.not_not, decide_eq_true_eq, decide_eq_false_iff_not, beq_iff_eq, beq_eq_false_iff_ne, bne_iff_ne, bne_eq_false_iff_eq, Bool.and_eq_true, Bool.or_eq_true, Bool.and_eq_false_iff, Bool.or_eq_false_iff, inB] at g2'
            first | refine rl_val (gw_some rfl rfl g2) (ov_loadall 1 ag46 rfl rfl rfl) rfl ?_ | refine rl_val (gw_some rfl rfl g2) (ov_loadp 1 ag46 rfl rfl (vs := [_, _, _, _, _, _, _]) rfl rfl) rfl ?_ | refine rl_val (gw_some rfl rfl g2) (ov_loada 1 ag46 rfl rfl rfl (by assumption)) rfl ?_
            first | refine rl_val (gw_some rfl rfl g2) (ov_loadall 0 ag46 rfl rfl rfl) rfl ?_ | refine rl_val (gw_some rfl rfl g2) (ov_loadp 0 ag46 rfl rfl (vs := [_, _, _, _, _, _, _]) rfl rfl) rfl ?_ | refine rl_val (gw_some rfl rfl g2) (ov_loada 0 ag46 rfl rfl rfl (by assumption)) rfl ?_
            refine rl_callv (gw_some rfl rfl g2) goes57 rfl (fun w1 hp => isKin_c _ _ _) rfl ?_
            refine rl_val (gw_some rfl rfl g2) (ov_not rfl) rfl ?_
            refine rl_val gw_none (ov_pick_t rfl g2 rfl) rfl ?_
            refine rl_val gw_none (ov_assign rfl) rfl ?_
            refine rl_nil ?_
            refine at_block ?_
            refine at_then ?_
            refine ct_reg ?_
            refine rl_val gw_none (ov_add rfl rfl (by omega)) rfl ?_
            refine rl_val gw_none (ov_move rfl) rfl ?_
            refine rl_nil ?_
            exact at_backR (j + 1) (by first | exact True.intro | omega | (dsimp only; omega) | (dsimp only at *; omega)) (by first | exact True.intro | omega | (dsimp only; omega) | (dsimp only at *; omega)) (by (repeat' (first | exact Sub.nil | refine Sub.cons ?_ ?_)); all_goals (first | rfl | exact lkInt rfl (by omega) | exact lkB rfl (by rw [anyK_take hc]; first | exact fit_yes g2 | exact fit_no g2))) (Sub.cons rfl (Sub.cons rfl (Sub.cons rfl (Sub.cons rfl (Sub.cons rfl (Sub.cons rfl (Sub.cons rfl (Sub.cons rfl (Sub.cons rfl (Sub.cons rfl (Sub.cons rfl Sub.nil))))))))))) (fun _ hq => hq.drop)
          ·
            have g2' := g2
            try simp only [Bool.not_eq_true', Bool.not_eq_false', Bool.not_not, decide_eq_true_eq, decide_eq_false_iff_not, beq_iff_eq, beq_eq_false_iff_ne, bne_iff_ne, bne_eq_false_iff_eq, Bool.and_eq_true, Bool.or_eq_true, Bool.and_eq_false_iff, Bool.or_eq_false_iff, inB] at g2'
            refine rl_skip (gw_not rfl rfl g2) rfl ?_
            refine rl_skip (gw_not rfl rfl g2) rfl ?_
            refine rl_skip (gw_not rfl rfl g2) rfl ?_
            refine rl_skip (gw_not rfl rfl g2) rfl ?_
            refine rl_val gw_none (ov_pick_f rfl g2 rfl) rfl ?_
            refine rl_val gw_none (ov_assign rfl) rfl ?_
            refine rl_nil ?_
            refine at_block ?_
            refine at_then ?_
            refine ct_reg ?_
            refine rl_val gw_none (ov_add rfl rfl (by omega)) rfl ?_
            refine rl_val gw_none (ov_move rfl) rfl ?_
            refine rl_nil ?_
            exact at_backR (j + 1) (by first | exact True.intro | omega | (dsimp only; omega) | (dsimp only at *; omega)) (by first | exact True.intro | omega | (dsimp only; omega) | (dsimp only at *; omega)) (by (repeat' (first | exact Sub.nil | refine Sub.cons ?_ ?_)); all_goals (first | rfl | exact lkInt rfl (by omega) | exact lkB rfl (by rw [anyK_take hc]; first | exact fit_yes g2 | exact fit_no g2))) (Sub.cons rfl (Sub.cons rfl (Sub.cons rfl (Sub.cons rfl (Sub.cons rfl (Sub.cons rfl (Sub.cons rfl (Sub.cons rfl (Sub.cons rfl (Sub.cons rfl (Sub.cons rfl Sub.nil))))))))))) (fun _ hq => hq.drop)
        ·
          have hje : j = (chR ((ageL xs).take k) room).length := by omega
          subst hje
          refine ct_exit ?_
          refine at_then_exit ?_
          refine at_then_exit ?_
          refine at_block_hit ?_
          refine at_then ?_
          refine ct_seq ?_
          refine ct_reg ?_
          refine rl_val gw_none (ov_move rfl) rfl ?_
          refine rl_nil ?_
          refine at_then ?_
          first | refine ct_dec rfl (fun h4 => ?_) (fun h4 => ?_) | refine ct_ndec rfl (fun h4 => ?_) (fun h4 => ?_) | refine ct_eq rfl (fun h4 => ?_) (fun h4 => ?_) | refine ct_ne rfl (fun h4 => ?_) (fun h4 => ?_) | refine ct_not rfl (fun h4 => ?_) (fun h4 => ?_) | refine ct_cond rfl (fun h4 => ?_) (fun h4 => ?_)
          ·
            rw [List.take_length] at h4
            refine ct_seq ?_
            refine ct_reg ?_
            refine rl_val gw_none (ov_move rfl) rfl ?_
            first | refine rl_val gw_none (ov_loadall 0 ag46 rfl rfl rfl) rfl ?_ | refine rl_val gw_none (ov_loadp 0 ag46 rfl rfl (vs := [_, _, _, _, _, _, _]) rfl rfl) rfl ?_ | refine rl_val gw_none (ov_loada 0 ag46 rfl rfl rfl (by assumption)) rfl ?_
            refine rl_bslice Try.underlying27 ze46 sz46 rfl rfl rfl rfl rfl rfl (fun N3 => ?_)
            refine rl_appT (flat encExhibit) ((flat_append _)) [_, _] (acc := (chR ((ageL xs).take k) room)) Try.underlying27 ze46 sz46 rfl rfl by46 rfl rfl rfl hsl ([y]) rfl (fun w1 hp => hp.sr1 0 rfl rfl (by decide)) (flat_one encExhibit_one _) (by unfold maxLen; first | omega | (simp; omega)) (by first | omega | (simp; omega)) rfl (fun boq1 capq1 padq1 hsq1 => ?_)
            refine rl_val gw_none (ov_assign rfl) rfl ?_
            refine rl_nil ?_
            refine at_then ?_
            refine ct_seq ?_
            refine ct_reg ?_
            refine rl_val gw_none (ov_move rfl) rfl ?_
            refine rl_val gw_none (ov_field fo46_0 rfl) rfl ?_
            first | refine rl_val gw_none (ov_load 1 sc3 rfl rfl rfl) rfl ?_ | refine rl_val gw_none (ov_load 1 sc3 rfl rfl (by assumption)) rfl ?_
            refine rl_bslice Try.underlying24 ze3 sz3 rfl rfl rfl rfl rfl rfl (fun N4 => ?_)
            refine rl_appT (ints) (ints_append) [_, _, _, _] (acc := ids (chR ((ageL xs).take k) room)) Try.underlying24 ze3 sz3 rfl rfl by3 rfl rfl rfl hsm ([y.id]) rfl (fun w1 hp => hp.sr1 0 rfl rfl (by decide)) (ints_one _) (by unfold maxLen; omega) (by omega) rfl (fun boq2 capq2 padq2 hsq2 => ?_)
            refine rl_val gw_none (ov_assign rfl) rfl ?_
            refine rl_nil ?_
            refine at_then ?_
            refine ct_reg ?_
            refine rl_val gw_none (ov_move rfl) rfl ?_
            refine rl_val gw_none (ov_field fo46_5 rfl) rfl ?_
            first | refine rl_val gw_none (ov_load 2 sc3 rfl rfl rfl) rfl ?_ | refine rl_val gw_none (ov_load 2 sc3 rfl rfl (by assumption)) rfl ?_
            refine rl_val gw_none (ov_sub rfl rfl (by omega)) rfl ?_
            refine rl_val gw_none (ov_assign rfl) rfl ?_
            refine rl_nil ?_
            refine at_block ?_
            refine at_then ?_
            refine ct_reg ?_
            refine rl_val gw_none (ov_add rfl rfl (by omega)) rfl ?_
            refine rl_val gw_none (ov_move rfl) rfl ?_
            refine rl_nil ?_
            have hts := chR_yes (room := room) hy (fit_and h4).2 (by have := of_decide_eq_true (fit_and h4).1; omega)
            have hti : ids ((chR ((ageL xs).take k) room) ++ [y]) = ids (chR ((ageL xs).take k) room) ++ [y.id] := ids_append _ _
            have htm := sumR_snoc (chR ((ageL xs).take k) room) y
            exact at_backR (k + 1, (boq1, capq1, padq1), (boq2, capq2, padq2)) ⟨hk2, by dsimp only; rw [hts]; exact hsq1, by dsimp only; rw [hts, hti]; exact hsq2⟩ (by dsimp only; omega) (by dsimp only; rw [hts]; (repeat' (first | exact Sub.nil | refine Sub.cons ?_ ?_)); all_goals (first | rfl | exact lkInt rfl (by omega) | (rw [hti]; rfl))) (Sub.cons rfl (Sub.cons rfl (Sub.cons rfl (Sub.cons rfl Sub.nil)))) (fun _ hp => ((Hp.sub (Hp.pull (Hp.pull (Hp.pull hp 5 rfl) 5 rfl) 5 rfl) (List.sublist_append_left [_, _, _] _))).cong (by dsimp only; rw [hts, hti]; try rfl))
          ·
            rw [List.take_length] at h4
            refine ct_skip ?_
            refine at_block ?_
            refine at_then ?_
            refine ct_reg ?_
            refine rl_val gw_none (ov_add rfl rfl (by omega)) rfl ?_
            refine rl_val gw_none (ov_move rfl) rfl ?_
            refine rl_nil ?_
            have hts := chR_no (room := room) hy (by rcases fit_or h4 with h9 | h9; exact .inl h9; exact .inr (by have := of_decide_eq_false h9; omega))
            exact at_backR (k + 1, (bo, cap, pad), (bo2, cap2, pad2)) ⟨hk2, by dsimp only; rw [hts]; exact hsl, by dsimp only; rw [hts]; exact hsm⟩ (by dsimp only; omega) (by dsimp only; rw [hts]; (repeat' (first | exact Sub.nil | refine Sub.cons ?_ ?_)); all_goals (first | rfl | exact lkInt rfl (by omega))) (Sub.cons rfl (Sub.cons rfl (Sub.cons rfl (Sub.cons rfl Sub.nil)))) (fun _ hp => ((Hp.sub (Hp.pull (Hp.pull (Hp.pull hp 3 rfl) 3 rfl) 3 rfl) (List.sublist_append_left [_, _, _] _))).cong (by dsimp only; rw [hts]; try rfl))
      ·
        have hke : k = (ageL xs).length := by omega
        subst hke
        refine ct_exit ?_
        refine at_then_exit ?_
        refine at_then_exit ?_
        refine at_block_hit ?_
        refine at_then ?_
        refine ct_seq ?_
        refine ct_reg ?_
        refine rl_val gw_none (ov_move rfl) rfl ?_
        refine rl_val gw_none (ov_assign rfl) rfl ?_
        refine rl_val gw_none (ov_assign rfl) rfl ?_
        refine rl_nil ?_
        refine at_then ?_
        refine ct_ret ?_
        refine at_ret2 Try.results45 (ro_tmp rfl) (ro_tmp rfl) (fun w1 hp => ?_)
        first | (rw [shR_yes hB, hB, show chR (ageL xs) room = (chR ((ageL xs).take (ageL xs).length) room) by rw [List.take_length]]; exact RetSl.own 1 hp rfl hsm) | (have hb : shB xs room = false := shB_no (by first | (left; simpa using g1) | (right; simpa using h1)); rw [shR_no hb, hb]; first | exact RetSl.nil hp.ext0 | exact RetSl.lit 0 hp rfl rfl (by decide))
end Go.Proofs.Ytfelindekikaeaa
