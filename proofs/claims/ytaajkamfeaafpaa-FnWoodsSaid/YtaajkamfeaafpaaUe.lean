import Derived.Test.YtaajkamfeaafpaaUc
import Derived.Test.YtaajkamfeaafpaaKo
import Derived.KernelRfl
set_option linter.unusedVariables false
set_option linter.unusedSimpArgs false
namespace Go.Proofs.Ytaajkamfeaafpaa
open Go Go.RowKit K
theorem iDaysNeeded_c (ws : List Wood) (xs : List Repair) (mi : Int) (vws : Value) (vxs : Value) (w : World) (hGws : ∀ y ∈ ws, GWood y) (hsws : SR w 3 vws ws.length (flat encWood ws)) (hGxs : ∀ y ∈ xs, GRepair y) (hsxs : SR w 5 vxs xs.length (flat encRepair xs)) (zmi : In64 mi) : Calls Try.prog 34 ([vws, vxs, .int .i64 mi]).toArray w (fun e w' => RetSl 3 1 (ints (daysR ws xs mi)) ((daysR ws xs mi).length) (fun s => .tuple #[s, .bool (daysB ws xs mi)]) w e w') := by
  obtain ⟨aws, capws, rfl, hcapws, hmaxws⟩ := hsws.slice
  have hlenws := hsws.len_le
  obtain ⟨axs, capxs, rfl, hcapxs, hmaxxs⟩ := hsxs.slice
  have hlenxs := hsxs.len_le
  refine calls_ct Try.func34 Try.ntmps34 rfl rfl ?_
  refine ct_seq ?_
  refine ct_reg ?_
  refine rl_val gw_none (ov_assign rfl) rfl ?_
  refine rl_val gw_none (ov_assign rfl) rfl ?_
  refine rl_nil ?_
  refine at_then ?_
  refine ct_seq ?_
  refine ct_seq ?_
  refine ct_reg ?_
  refine rl_val gw_none (ov_move rfl) rfl ?_
  refine rl_val gw_none (ov_move rfl) rfl ?_
  refine rl_callv gw_none goes39 rfl (fun w1 hp => iAreRepairs_c ws xs _ _ _ hGws (hsws.ext hp.ext0) hGxs (hsxs.ext hp.ext0)) rfl ?_
  refine rl_val gw_none (ov_not rfl) rfl ?_
  refine rl_val gw_none (ov_move rfl) rfl ?_
  refine rl_split (t := 16) rfl (fun g1 => ?_) (fun g1 => ?_)
  ·
    have g1' := g1
    try simp only [Bool.not_eq_true', Bool.not_eq_false', Bool.not_not, decide_eq_true_eq, decide_eq_false_iff_not, beq_iff_eq, beq_eq_false_iff_ne, bne_iff_ne, bne_eq_false_iff_eq, Bool.and_eq_true, Bool.or_eq_true, Bool.and_eq_false_iff, Bool.or_eq_false_iff, inB] at g1'
    refine rl_skip (gw_not rfl rfl g1) rfl ?_
    refine rl_skip (gw_not rfl rfl g1) rfl ?_
    refine rl_skip (gw_not rfl rfl g1) rfl ?_
    refine rl_val gw_none (ov_pick_t rfl g1 rfl) rfl ?_
    refine rl_nil ?_
    refine at_then ?_
    refine ct_true rfl rfl ?_
    refine ct_seq ?_
    refine ct_reg ?_
    refine rl_val gw_none (ov_assign rfl) rfl ?_
    refine rl_val gw_none (ov_assign rfl) rfl ?_
    refine rl_nil ?_
    refine at_then ?_
    refine ct_ret ?_
    refine at_then_ret ?_
    refine at_ret2 Try.results34 (ro_tmp rfl) (ro_tmp rfl) (fun w1 hp => ?_)
    first | (rw [daysR_yes hB, hB, ← hol]; exact RetSl.own 999 hp rfl hsl) | (have hb : daysB ws xs mi = false := daysB_no (by first | (left; simpa using g1) | (right; simpa using h1)); rw [daysR_no hb, hb]; first | exact RetSl.nil hp.ext0 | exact RetSl.lit 0 hp rfl rfl (by decide))
  ·
    have g1' := g1
    try simp only [Bool.not_eq_true', Bool.not_eq_false', Bool.not_not, decide_eq_true_eq, decide_eq_false_iff_not, beq_iff_eq, beq_eq_false_iff_ne, bne_iff_ne, bne_eq_false_iff_eq, Bool.and_eq_true, Bool.or_eq_true, Bool.and_eq_false_iff, Bool.or_eq_false_iff, inB] at g1'
    refine rl_val (gw_some rfl rfl g1) (ov_move rfl) rfl ?_
    refine rl_callv (gw_some rfl rfl g1) goes61 rfl (fun w1 hp => within_c _ _ _ _) rfl ?_
    refine rl_val (gw_some rfl rfl g1) (ov_not rfl) rfl ?_
    refine rl_val gw_none (ov_pick_f rfl g1 rfl) rfl ?_
    refine rl_nil ?_
    refine at_then ?_
    first | refine ct_dec rfl (fun h1 => ?_) (fun h1 => ?_) | refine ct_ndec rfl (fun h1 => ?_) (fun h1 => ?_) | refine ct_eq rfl (fun h1 => ?_) (fun h1 => ?_) | refine ct_ne rfl (fun h1 => ?_) (fun h1 => ?_) | refine ct_not rfl (fun h1 => ?_) (fun h1 => ?_) | refine ct_cond rfl (fun h1 => ?_) (fun h1 => ?_)
    ·
      refine ct_seq ?_
      refine ct_reg ?_
      refine rl_val gw_none (ov_assign rfl) rfl ?_
      refine rl_val gw_none (ov_assign rfl) rfl ?_
      refine rl_nil ?_
      refine at_then ?_
      refine ct_ret ?_
      refine at_then_ret ?_
      refine at_ret2 Try.results34 (ro_tmp rfl) (ro_tmp rfl) (fun w1 hp => ?_)
      first | (rw [daysR_yes hB, hB, ← hol]; exact RetSl.own 999 hp rfl hsl) | (have hb : daysB ws xs mi = false := daysB_no (by first | (left; simpa using g1) | (right; simpa using h1)); rw [daysR_no hb, hb]; first | exact RetSl.nil hp.ext0 | exact RetSl.lit 0 hp rfl rfl (by decide))
    ·
      have hok : repairsB ws xs = true := by simpa using g1
      have hw := (repairs_woods hok).1
      have hx10 := (repairs_woods hok).2
      have hol := ordL_len ws xs
      have hmi := h1
      simp only [Bool.not_eq_false', inB, Bool.and_eq_true, decide_eq_true_eq] at hmi
      have hB : daysB ws xs mi = true := daysB_yes hok (by simp only [inB, Bool.and_eq_true, decide_eq_true_eq]; omega)
      refine ct_skip ?_
      refine at_then ?_
      refine ct_seq ?_
      refine ct_reg ?_
      refine rl_val gw_none (ov_assign rfl) rfl ?_
      refine rl_nil ?_
      refine at_then ?_
      refine ct_seq ?_
      refine ct_reg ?_
      refine rl_val gw_none (ov_assign rfl) rfl ?_
      refine rl_nil ?_
      refine at_then ?_
      refine ct_seq ?_
      refine ct_seq ?_
      refine ct_reg ?_
      refine rl_val gw_none (ov_move rfl) rfl ?_
      refine rl_val gw_none (ov_move rfl) rfl ?_
      refine rl_callsl (ι := Nat × List Value) (fun i bo => sv bo (ordL ws xs).length i.1) (fun i => flat encRepair (ordL ws xs) ++ i.2) (fun i bo => Sl 5 bo (ordL ws xs).length i.1 (flat encRepair (ordL ws xs)) i.2) goes70 rfl (fun w1 hp => workOrder_c ws xs _ _ _ hGws (hsws.ext hp.ext0) hGxs (hsxs.ext hp.ext0) hok) rfl (fun iwo bowo hswo => ?_)
      refine rl_val gw_none (ov_len Try.underlying37 rfl) rfl ?_
      refine rl_val gw_none (ov_move rfl) rfl ?_
      refine rl_nil ?_
      refine at_then ?_
      refine ct_block ?_
      refine ct_loopR (ι := Nat × Option Nat × Nat × List Value) (fun p0 => [(8, sv p0.2.1 (dayL ws (ordL ws xs) mi p0.1).length p0.2.2.1), (9, .int .i64 (sumM ws (ordL ws xs) p0.1)), (25, .int .i64 p0.1)]) [(0, _), (2, _), (6, _), (7, _), (23, _), (24, _)] (fun p0 => (p0.2.1, 3, ints (dayL ws (ordL ws xs) mi p0.1) ++ p0.2.2.2) :: _) (fun p0 => p0.1 ≤ (ordL ws xs).length ∧ Sl 1 p0.2.1 (dayL ws (ordL ws xs) mi p0.1).length p0.2.2.1 (ints (dayL ws (ordL ws xs) mi p0.1)) p0.2.2.2) (fun p0 => (ordL ws xs).length - p0.1) ((0, none, 0, [])) (Sub.cons rfl (Sub.cons rfl (Sub.cons rfl (Sub.cons rfl (Sub.cons rfl (Sub.cons rfl Sub.nil)))))) (fun _ hq => hq.nil 3) (by dsimp only; (repeat' (first | exact Sub.nil | refine Sub.cons ?_ ?_)); all_goals (first | rfl | exact lkInt rfl (by omega))) ⟨Nat.zero_le _, Sl.nil0 _⟩ (fun p0 hp0 => ?_)
      obtain ⟨k, bo, cap, pad⟩ := p0
      obtain ⟨hk, hsl⟩ := hp0
      dsimp only at hk hsl
      try dsimp only
      have hdl := dayL_len ws (ordL ws xs) mi k
      refine ct_seq ?_
      refine ct_reg ?_
      refine rl_val gw_none (ov_lss rfl rfl) rfl ?_
      refine rl_nil ?_
      refine at_then ?_
      refine ct_seq ?_
      first | refine ct_dec rfl (fun h2 => ?_) (fun h2 => ?_) | refine ct_ndec rfl (fun h2 => ?_) (fun h2 => ?_) | refine ct_eq rfl (fun h2 => ?_) (fun h2 => ?_) | refine ct_ne rfl (fun h2 => ?_) (fun h2 => ?_) | refine ct_not rfl (fun h2 => ?_) (fun h2 => ?_) | refine ct_cond rfl (fun h2 => ?_) (fun h2 => ?_)
      ·
        have hk2 : k < (ordL ws xs).length := by omega
        obtain ⟨bw0, rfl⟩ := slSome hswo (by omega)
        have hy := getLt hk2
        have hyb := ordL_good hok hy
        have hx := hy
        generalize (ordL ws xs)[k] = y at *
        have hyg := hyb
        unfold repairB inB at hyg
        simp only [Bool.and_eq_true, decide_eq_true_eq] at hyg
        have hmr := minR_bound hw hyb
        have hsb := sumM_bd hok k
        have hdb := day_bd (s := sumM ws (ordL ws xs) k + minR ws y) (M := mi) (by omega) (by omega)
        refine ct_skip ?_
        refine at_then ?_
        refine ct_seq ?_
        refine ct_block ?_
        refine ct_seq ?_
        refine ct_reg ?_
        first | refine rl_val gw_none (ov_ix Try.underlying37 sz53 rfl rfl _ rfl (by omega)) rfl ?_ | refine rl_val gw_none (ov_ix Try.underlying37 sz53 rfl rfl (k) (by omega) (by omega)) rfl ?_
        refine rl_val gw_none (ov_loada 1 ag53 rfl rfl (vs := encRepair y) rfl (repCells hy _)) rfl ?_
        refine rl_alloc ze53 rfl (fun N1 => ?_)
        refine rl_store [] sz53 rfl rfl rfl rfl rfl (Nat.le_of_ble_eq_true rfl) ?_
        refine rl_nil ?_
        refine at_then ?_
        refine ct_seq ?_
        refine ct_reg ?_
        refine rl_val gw_none (ov_move rfl) rfl ?_
        refine rl_val gw_none (ov_move rfl) rfl ?_
        first | refine rl_val gw_none (ov_loadall 0 ag53 rfl rfl rfl) rfl ?_ | refine rl_val gw_none (ov_loadp 0 ag53 rfl rfl (vs := [_, _, _, _, _]) rfl rfl) rfl ?_ | refine rl_val gw_none (ov_loada 0 ag53 rfl rfl rfl (by assumption)) rfl ?_
        refine rl_callv gw_none goes78 rfl (fun w1 hp => minutesFor_c ws y _ _ (hsws.ext hp.ext0) hw hyb) rfl ?_
        refine rl_val gw_none (ov_add rfl rfl (by omega)) rfl ?_
        refine rl_val gw_none (ov_assign rfl) rfl ?_
        refine rl_nil ?_
        refine at_then ?_
        refine ct_reg ?_
        refine rl_val gw_none (ov_move rfl) rfl ?_
        refine rl_val gw_none (ov_move rfl) rfl ?_
        refine rl_val gw_none (ov_move rfl) rfl ?_
        refine rl_val gw_none (ov_add rfl rfl (by omega)) rfl ?_
        refine rl_val gw_none (ov_sub rfl rfl (by omega)) rfl ?_
        refine rl_val gw_none (ov_move rfl) rfl ?_
        refine rl_val gw_none (ov_quo rfl rfl (by omega) (by omega) (by omega)) rfl ?_
        refine rl_val gw_none (ov_max rfl rfl) rfl ?_
        refine rl_bslice Try.underlying34 ze3 sz3 rfl rfl rfl rfl rfl rfl (fun N2 => ?_)
        refine rl_appT (ints) (ints_append) [_, _] (acc := dayL ws (ordL ws xs) mi k) Try.underlying34 ze3 sz3 rfl rfl by3 rfl rfl rfl hsl ([max1 ((sumM ws (ordL ws xs) k + minR ws y + mi - 1) / mi)]) rfl (fun w1 hp => hp.sr1 0 rfl rfl (by decide)) (ints_one _) (by unfold maxLen; omega) (by omega) rfl (fun boq1 capq1 padq1 hsq1 => ?_)
        refine rl_val gw_none (ov_assign rfl) rfl ?_
        refine rl_nil ?_
        refine at_block ?_
        refine at_then ?_
        refine ct_reg ?_
        refine rl_val gw_none (ov_add rfl rfl (by omega)) rfl ?_
        refine rl_val gw_none (ov_move rfl) rfl ?_
        refine rl_nil ?_
        have hts : dayL ws (ordL ws xs) mi (k + 1) = dayL ws (ordL ws xs) mi k ++ [max1 ((sumM ws (ordL ws xs) k + minR ws y + mi - 1) / mi)] := by rw [dayL_snoc, dayV, sumM_succ hy]
        have hss := sumM_succ (ws := ws) hy
        exact at_backR (k + 1, boq1, capq1, padq1) ⟨hk2, by dsimp only; rw [hts]; exact hsq1⟩ (by dsimp only; omega) (by dsimp only; rw [hts]; (repeat' (first | exact Sub.nil | refine Sub.cons ?_ ?_)); all_goals (first | rfl | exact lkInt rfl (by omega))) (Sub.cons rfl (Sub.cons rfl (Sub.cons rfl (Sub.cons rfl (Sub.cons rfl (Sub.cons rfl Sub.nil)))))) (fun _ hq => (hq.drop.drop).cong (by dsimp only; rw [hts]; try rfl))
      ·
        have hke : k = (ordL ws xs).length := by omega
        subst hke
        refine ct_exit ?_
        refine at_then_exit ?_
        refine at_then_exit ?_
        refine at_block_hit ?_
        refine at_then ?_
        refine ct_seq ?_
        refine ct_reg ?_
        refine rl_val gw_none (ov_move rfl) rfl ?_
        refine rl_val gw_none (ov_assign rfl) rfl ?_
        refine rl_val gw_none (ov_assign rfl) rfl ?_
        refine rl_nil ?_
        refine at_then ?_
        refine ct_ret ?_
        refine at_ret2 Try.results34 (ro_tmp rfl) (ro_tmp rfl) (fun w1 hp => ?_)
        first | (rw [daysR_yes hB, hB, ← hol]; exact RetSl.own 0 hp rfl hsl) | (have hb : daysB ws xs mi = false := daysB_no (by first | (left; simpa using g1) | (right; simpa using h1)); rw [daysR_no hb, hb]; first | exact RetSl.nil hp.ext0 | exact RetSl.lit 0 hp rfl rfl (by decide))

theorem l1Most_c (n : Int) (w : World) : Calls Try.prog 91 ([.int .i64 1, .int .i64 n]).toArray w (fun e w' => e = .returned (.int .i64 (max1 n)) ∧ Ext w w') := by
  refine calls_ct Try.func91 Try.ntmps91 rfl rfl ?_
  refine ct_seq ?_
  refine ct_reg ?_
  refine rl_val gw_none (ov_assign rfl) rfl ?_
  refine rl_nil ?_
  refine at_then ?_
  refine ct_seq ?_
  refine ct_seq ?_
  refine ct_reg ?_
  refine rl_val gw_none (ov_move rfl) rfl ?_
  refine rl_val gw_none (ov_move rfl) rfl ?_
  refine rl_val gw_none (ov_gtr rfl rfl) rfl ?_
  refine rl_nil ?_
  refine at_then ?_
  first | refine ct_dec rfl (fun h1 => ?_) (fun h1 => ?_) | refine ct_ndec rfl (fun h1 => ?_) (fun h1 => ?_) | refine ct_eq rfl (fun h1 => ?_) (fun h1 => ?_) | refine ct_ne rfl (fun h1 => ?_) (fun h1 => ?_) | refine ct_not rfl (fun h1 => ?_) (fun h1 => ?_) | refine ct_cond rfl (fun h1 => ?_) (fun h1 => ?_)
  ·
    refine ct_seq ?_
    refine ct_reg ?_
    refine rl_val gw_none (ov_move rfl) rfl ?_
    refine rl_val gw_none (ov_assign rfl) rfl ?_
    refine rl_nil ?_
    refine at_then ?_
    refine ct_ret ?_
    refine at_then_ret ?_
    refine at_ret1 Try.results91 (ro_tmp rfl) (fun w1 hp => ?_)
    refine ⟨?_, hp.ext0⟩
    first | (rw [show max1 n = 1 by unfold max1; split <;> omega]; done) | (rw [show max1 n = n by unfold max1; split <;> omega]; done)
  ·
    refine ct_skip ?_
    refine at_then ?_
    refine ct_seq ?_
    refine ct_reg ?_
    refine rl_val gw_none (ov_move rfl) rfl ?_
    refine rl_val gw_none (ov_assign rfl) rfl ?_
    refine rl_nil ?_
    refine at_then ?_
    refine ct_ret ?_
    refine at_ret1 Try.results91 (ro_tmp rfl) (fun w1 hp => ?_)
    refine ⟨?_, hp.ext0⟩
    first | (rw [show max1 n = 1 by unfold max1; split <;> omega]; done) | (rw [show max1 n = n by unfold max1; split <;> omega]; done)

theorem l23Days_c (ws : List Wood) (ys : List Repair) (mi : Int) (vws vys : Value) (w : World) (hGws : ∀ y ∈ ws, GWood y) (hsws : SR w 3 vws ws.length (flat encWood ws)) (hsys : SR w 5 vys ys.length (flat encRepair ys)) (hw : woodsB ws = true) (hall : ∀ (k : Nat) y, ys[k]? = some y → repairB ws.length y = true) (hsm : ∀ k : Nat, 0 ≤ sumM ws ys k ∧ sumM ws ys k ≤ 1200 * (k : Int)) (h10 : ys.length ≤ 10) (hmi : 30 ≤ mi ∧ mi ≤ 600) : Calls Try.prog 67 ([vws, vys, .int .i64 mi]).toArray w (fun e w' => RetSl 3 1 (ints (dayL ws ys mi ys.length)) ys.length (fun s => s) w e w') := by
  obtain ⟨aw, capw, rfl, hcapw, hmaxw⟩ := hsws.slice
  have hlenw := hsws.len_le
  obtain ⟨a, cap, rfl, hcap, hmax⟩ := hsys.slice
  have hlen := hsys.len_le
  refine calls_ct Try.func67 Try.ntmps67 rfl rfl ?_
  refine ct_seq ?_
  refine ct_reg ?_
  refine rl_val gw_none (ov_assign rfl) rfl ?_
  refine rl_nil ?_
  refine at_then ?_
  refine ct_seq ?_
  refine ct_reg ?_
  refine rl_bslice Try.underlying34 ze3 sz3 rfl rfl rfl rfl rfl rfl (fun N1 => ?_)
  refine rl_val gw_none (ov_assign rfl) rfl ?_
  refine rl_nil ?_
  refine at_then ?_
  refine ct_seq ?_
  refine ct_reg ?_
  refine rl_val gw_none (ov_assign rfl) rfl ?_
  refine rl_nil ?_
  refine at_then ?_
  refine ct_seq ?_
  refine ct_seq ?_
  refine ct_reg ?_
  refine rl_val gw_none (ov_assign rfl) rfl ?_
  refine rl_nil ?_
  refine at_then ?_
  refine ct_block ?_
  refine ct_loopR (ι := Nat × Option Nat × Nat × List Value) (fun p0 => [(7, sv p0.2.1 (dayL ws ys mi p0.1).length p0.2.2.1), (8, .int .i64 (sumM ws ys p0.1)), (9, .int .i64 p0.1)]) [(0, _), (1, _), (2, _), (6, _)] (fun p0 => (p0.2.1, 3, ints (dayL ws ys mi p0.1) ++ p0.2.2.2) :: _) (fun p0 => p0.1 ≤ ys.length ∧ Sl 1 p0.2.1 (dayL ws ys mi p0.1).length p0.2.2.1 (ints (dayL ws ys mi p0.1)) p0.2.2.2) (fun p0 => ys.length - p0.1) ((0, some N1, 0, [])) (Sub.cons rfl (Sub.cons rfl (Sub.cons rfl (Sub.cons rfl Sub.nil)))) (fun _ hq => hq) (by dsimp only; (repeat' (first | exact Sub.nil | refine Sub.cons ?_ ?_)); all_goals (first | rfl | exact lkInt rfl (by omega))) ⟨Nat.zero_le _, Sl.lit rfl (Nat.zero_le _)⟩ (fun p0 hp0 => ?_)
  obtain ⟨k, bo, cap, pad⟩ := p0
  obtain ⟨hk, hsl⟩ := hp0
  dsimp only at hk hsl
  try dsimp only
  have hdl := dayL_len ws ys mi k
  refine ct_seq ?_
  refine ct_seq ?_
  refine ct_reg ?_
  refine rl_val gw_none (ov_move rfl) rfl ?_
  refine rl_val gw_none (ov_move rfl) rfl ?_
  refine rl_val gw_none (ov_len Try.underlying37 rfl) rfl ?_
  refine rl_val gw_none (ov_lss rfl rfl) rfl ?_
  refine rl_nil ?_
  refine at_then ?_
  first | refine ct_dec rfl (fun h1 => ?_) (fun h1 => ?_) | refine ct_ndec rfl (fun h1 => ?_) (fun h1 => ?_) | refine ct_eq rfl (fun h1 => ?_) (fun h1 => ?_) | refine ct_ne rfl (fun h1 => ?_) (fun h1 => ?_) | refine ct_not rfl (fun h1 => ?_) (fun h1 => ?_) | refine ct_cond rfl (fun h1 => ?_) (fun h1 => ?_)
  ·
    have hk2 : k < ys.length := by omega
    obtain ⟨b, o, rfl, hel⟩ := hsys.elem encRepair_len (by omega) hk2
    have hy := getLt hk2
    have hyb := hall _ _ hy
    generalize ys[k] = y at *
    have hcy := hel k y hy
    have hyg := hyb
    unfold repairB inB at hyg
    simp only [Bool.and_eq_true, decide_eq_true_eq] at hyg
    have hmr := minR_bound hw hyb
    have hsb := hsm k
    have hdb := day_bd (s := sumM ws ys k + minR ws y) (M := mi) (by omega) (by omega)
    refine ct_skip ?_
    refine at_then ?_
    refine ct_seq ?_
    refine ct_block ?_
    refine ct_seq ?_
    refine ct_reg ?_
    refine rl_val gw_none (ov_move rfl) rfl ?_
    refine rl_val gw_none (ov_move rfl) rfl ?_
    refine rl_val gw_none (ov_move rfl) rfl ?_
    refine rl_val gw_none (ov_move rfl) rfl ?_
    first | refine rl_val gw_none (ov_ix Try.underlying37 sz53 rfl rfl _ rfl (by omega)) rfl ?_ | refine rl_val gw_none (ov_ix Try.underlying37 sz53 rfl rfl (k) (by omega) (by omega)) rfl ?_
    first | refine rl_val gw_none (ov_loadaw ag53 rfl rfl (by assumption)) rfl ?_ | refine rl_val gw_none (ov_loadall 0 ag53 rfl rfl rfl) rfl ?_ | refine rl_val gw_none (ov_loadall 1 ag53 rfl rfl rfl) rfl ?_ | refine rl_val gw_none (ov_loadall 2 ag53 rfl rfl rfl) rfl ?_ | refine rl_val gw_none (ov_loadall 3 ag53 rfl rfl rfl) rfl ?_
    refine rl_callv gw_none goes84 rfl (fun w1 hp => l23Minutes_c ws y _ _ (hsws.ext hp.ext0) hw hyb) rfl ?_
    refine rl_val gw_none (ov_add rfl rfl (by omega)) rfl ?_
    refine rl_val gw_none (ov_assign rfl) rfl ?_
    refine rl_nil ?_
    refine at_then ?_
    refine ct_reg ?_
    refine rl_val gw_none (ov_move rfl) rfl ?_
    refine rl_val gw_none (ov_move rfl) rfl ?_
    refine rl_val gw_none (ov_move rfl) rfl ?_
    refine rl_val gw_none (ov_add rfl rfl (by omega)) rfl ?_
    refine rl_val gw_none (ov_sub rfl rfl (by omega)) rfl ?_
    refine rl_val gw_none (ov_move rfl) rfl ?_
    refine rl_val gw_none (ov_quo rfl rfl (by omega) (by omega) (by omega)) rfl ?_
    refine rl_callv gw_none goes91 rfl (fun w1 hp => l1Most_c _ _) rfl ?_
    refine rl_bslice Try.underlying34 ze3 sz3 rfl rfl rfl rfl rfl rfl (fun N2 => ?_)
    refine rl_appT (ints) (ints_append) [_] (acc := dayL ws ys mi k) Try.underlying34 ze3 sz3 rfl rfl by3 rfl rfl rfl hsl ([max1 ((sumM ws ys k + minR ws y + mi - 1) / mi)]) rfl (fun w1 hp => hp.sr1 0 rfl rfl (by decide)) (ints_one _) (by unfold maxLen; omega) (by omega) rfl (fun boq1 capq1 padq1 hsq1 => ?_)
    refine rl_val gw_none (ov_assign rfl) rfl ?_
    refine rl_nil ?_
    refine at_block ?_
    refine at_then ?_
    refine ct_reg ?_
    refine rl_val gw_none (ov_move rfl) rfl ?_
    refine rl_val gw_none (ov_add rfl rfl (by omega)) rfl ?_
    refine rl_val gw_none (ov_assign rfl) rfl ?_
    refine rl_nil ?_
    have hts : dayL ws ys mi (k + 1) = dayL ws ys mi k ++ [max1 ((sumM ws ys k + minR ws y + mi - 1) / mi)] := by rw [dayL_snoc, dayV, sumM_succ hy]
    have hss := sumM_succ (ws := ws) hy
    exact at_backR (k + 1, boq1, capq1, padq1) ⟨hk2, by dsimp only; rw [hts]; exact hsq1⟩ (by dsimp only; omega) (by dsimp only; rw [hts]; (repeat' (first | exact Sub.nil | refine Sub.cons ?_ ?_)); all_goals (first | rfl | exact lkInt rfl (by omega))) (Sub.cons rfl (Sub.cons rfl (Sub.cons rfl (Sub.cons rfl Sub.nil)))) (fun _ hq => (hq.drop).cong (by dsimp only; rw [hts]; try rfl))
  ·
    have hke : k = ys.length := by omega
    subst hke
    refine ct_exit ?_
    refine at_then_exit ?_
    refine at_then_exit ?_
    refine at_block_hit ?_
    refine at_then ?_
    refine ct_seq ?_
    refine ct_reg ?_
    refine rl_val gw_none (ov_move rfl) rfl ?_
    refine rl_val gw_none (ov_assign rfl) rfl ?_
    refine rl_nil ?_
    refine at_then ?_
    refine ct_ret ?_
    refine at_ret1 Try.results67 (ro_tmp rfl) (fun w1 hp => ?_)
    rw [hdl] at hsl ⊢
    exact RetSl.own 0 hp rfl hsl

theorem sDaysNeeded_c (ws : List Wood) (xs : List Repair) (mi : Int) (vws : Value) (vxs : Value) (w : World) (hGws : ∀ y ∈ ws, GWood y) (hsws : SR w 3 vws ws.length (flat encWood ws)) (hGxs : ∀ y ∈ xs, GRepair y) (hsxs : SR w 5 vxs xs.length (flat encRepair xs)) (zmi : In64 mi) : Calls Try.prog 35 ([vws, vxs, .int .i64 mi]).toArray w (fun e w' => RetSl 3 1 (ints (daysR ws xs mi)) ((daysR ws xs mi).length) (fun s => .tuple #[s, .bool (daysB ws xs mi)]) w e w') := by
  obtain ⟨aws, capws, rfl, hcapws, hmaxws⟩ := hsws.slice
  have hlenws := hsws.len_le
  obtain ⟨axs, capxs, rfl, hcapxs, hmaxxs⟩ := hsxs.slice
  have hlenxs := hsxs.len_le
  refine calls_ct Try.func35 Try.ntmps35 rfl rfl ?_
  refine ct_seq ?_
  refine ct_reg ?_
  refine rl_val gw_none (ov_assign rfl) rfl ?_
  refine rl_val gw_none (ov_assign rfl) rfl ?_
  refine rl_nil ?_
  refine at_then ?_
  refine ct_seq ?_
  refine ct_seq ?_
  refine ct_reg ?_
  refine rl_val gw_none (ov_move rfl) rfl ?_
  refine rl_val gw_none (ov_move rfl) rfl ?_
  refine rl_callv gw_none goes65 rfl (fun w1 hp => l23Good_c ws xs _ _ _ hGws (hsws.ext hp.ext0) hGxs (hsxs.ext hp.ext0)) rfl ?_
  refine rl_val gw_none (ov_not rfl) rfl ?_
  refine rl_val gw_none (ov_move rfl) rfl ?_
  refine rl_split (t := 12) rfl (fun g1 => ?_) (fun g1 => ?_)
  ·
    have g1' := g1
    try simp only [Bool.not_eq_true', Bool.not_eq_false', Bool.not_not, decide_eq_true_eq, decide_eq_false_iff_not, beq_iff_eq, beq_eq_false_iff_ne, bne_iff_ne, bne_eq_false_iff_eq, Bool.and_eq_true, Bool.or_eq_true, Bool.and_eq_false_iff, Bool.or_eq_false_iff, inB] at g1'
    refine rl_skip (gw_not rfl rfl g1) rfl ?_
    refine rl_skip (gw_not rfl rfl g1) rfl ?_
    refine rl_skip (gw_not rfl rfl g1) rfl ?_
    refine rl_val gw_none (ov_pick_t rfl g1 rfl) rfl ?_
    refine rl_nil ?_
    refine at_then ?_
    refine ct_true rfl rfl ?_
    refine ct_seq ?_
    refine ct_reg ?_
    refine rl_bslice Try.underlying34 ze3 sz3 rfl rfl rfl rfl rfl rfl (fun N1 => ?_)
    refine rl_val gw_none (ov_assign rfl) rfl ?_
    refine rl_val gw_none (ov_assign rfl) rfl ?_
    refine rl_nil ?_
    refine at_then ?_
    refine ct_ret ?_
    refine at_then_ret ?_
    refine at_ret2 Try.results35 (ro_tmp rfl) (ro_tmp rfl) (fun w1 hp => ?_)
    first | (rw [daysR_yes hB, hB, ← hol, dayL_len]; exact RetSl.own 999 hp rfl hsdy) | (have hb : daysB ws xs mi = false := daysB_no (by first | (left; simpa using g1) | (right; simpa using h1)); rw [daysR_no hb, hb]; first | exact RetSl.nil hp.ext0 | exact RetSl.lit 0 hp rfl rfl (by decide))
  ·
    have g1' := g1
    try simp only [Bool.not_eq_true', Bool.not_eq_false', Bool.not_not, decide_eq_true_eq, decide_eq_false_iff_not, beq_iff_eq, beq_eq_false_iff_ne, bne_iff_ne, bne_eq_false_iff_eq, Bool.and_eq_true, Bool.or_eq_true, Bool.and_eq_false_iff, Bool.or_eq_false_iff, inB] at g1'
    refine rl_val (gw_some rfl rfl g1) (ov_move rfl) rfl ?_
    refine rl_callv (gw_some rfl rfl g1) goes64 rfl (fun w1 hp => l1In_c _ _ _ _) rfl ?_
    refine rl_val (gw_some rfl rfl g1) (ov_not rfl) rfl ?_
    refine rl_val gw_none (ov_pick_f rfl g1 rfl) rfl ?_
    refine rl_nil ?_
    refine at_then ?_
    first | refine ct_dec rfl (fun h1 => ?_) (fun h1 => ?_) | refine ct_ndec rfl (fun h1 => ?_) (fun h1 => ?_) | refine ct_eq rfl (fun h1 => ?_) (fun h1 => ?_) | refine ct_ne rfl (fun h1 => ?_) (fun h1 => ?_) | refine ct_not rfl (fun h1 => ?_) (fun h1 => ?_) | refine ct_cond rfl (fun h1 => ?_) (fun h1 => ?_)
    ·
      refine ct_seq ?_
      refine ct_reg ?_
      refine rl_bslice Try.underlying34 ze3 sz3 rfl rfl rfl rfl rfl rfl (fun N2 => ?_)
      refine rl_val gw_none (ov_assign rfl) rfl ?_
      refine rl_val gw_none (ov_assign rfl) rfl ?_
      refine rl_nil ?_
      refine at_then ?_
      refine ct_ret ?_
      refine at_then_ret ?_
      refine at_ret2 Try.results35 (ro_tmp rfl) (ro_tmp rfl) (fun w1 hp => ?_)
      first | (rw [daysR_yes hB, hB, ← hol, dayL_len]; exact RetSl.own 999 hp rfl hsdy) | (have hb : daysB ws xs mi = false := daysB_no (by first | (left; simpa using g1) | (right; simpa using h1)); rw [daysR_no hb, hb]; first | exact RetSl.nil hp.ext0 | exact RetSl.lit 0 hp rfl rfl (by decide))
    ·
      have hok : repairsB ws xs = true := by simpa using g1
      have hw := (repairs_woods hok).1
      have hx10 := (repairs_woods hok).2
      have hol := ordL_len ws xs
      have hmi := h1
      simp only [Bool.not_eq_false', inB, Bool.and_eq_true, decide_eq_true_eq] at hmi
      have hB : daysB ws xs mi = true := daysB_yes hok (by simp only [inB, Bool.and_eq_true, decide_eq_true_eq]; omega)
      refine ct_skip ?_
      refine at_then ?_
      refine ct_seq ?_
      refine ct_reg ?_
      refine rl_val gw_none (ov_move rfl) rfl ?_
      refine rl_val gw_none (ov_move rfl) rfl ?_
      refine rl_val gw_none (ov_move rfl) rfl ?_
      refine rl_callsl (ι := Nat × List Value) (fun i bo => sv bo (ordL ws xs).length i.1) (fun i => flat encRepair (ordL ws xs) ++ i.2) (fun i bo => Sl 5 bo (ordL ws xs).length i.1 (flat encRepair (ordL ws xs)) i.2) goes66 rfl (fun w1 hp => l23Order_c ws xs _ _ _ hGws (hsws.ext hp.ext0) hGxs (hsxs.ext hp.ext0) hok) rfl (fun iwo bowo hswo => ?_)
      refine rl_val gw_none (ov_move rfl) rfl ?_
      refine rl_callsl (ι := Nat × List Value) (fun i bo => sv bo (ordL ws xs).length i.1) (fun i => ints (dayL ws (ordL ws xs) mi (ordL ws xs).length) ++ i.2) (fun i bo => Sl 1 bo (ordL ws xs).length i.1 (ints (dayL ws (ordL ws xs) mi (ordL ws xs).length)) i.2) goes67 rfl (fun w1 hp => l23Days_c ws (ordL ws xs) mi _ _ _ hGws (hsws.ext hp.ext0) (hp.slsr 0 rfl hswo) hw (fun k y hy => ordL_good hok hy) (sumM_bd hok) (by omega) (by omega)) rfl (fun idy body hsdy => ?_)
      refine rl_val gw_none (ov_assign rfl) rfl ?_
      refine rl_val gw_none (ov_assign rfl) rfl ?_
      refine rl_nil ?_
      refine at_then ?_
      refine ct_ret ?_
      refine at_ret2 Try.results35 (ro_tmp rfl) (ro_tmp rfl) (fun w1 hp => ?_)
      first | (rw [daysR_yes hB, hB, ← hol, dayL_len]; exact RetSl.own 0 hp rfl hsdy) | (have hb : daysB ws xs mi = false := daysB_no (by first | (left; simpa using g1) | (right; simpa using h1)); rw [daysR_no hb, hb]; first | exact RetSl.nil hp.ext0 | exact RetSl.lit 0 hp rfl rfl (by decide))
end Go.Proofs.Ytaajkamfeaafpaa
