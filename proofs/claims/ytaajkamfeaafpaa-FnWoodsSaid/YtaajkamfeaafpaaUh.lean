import Derived.Test.YtaajkamfeaafpaaUg
import Derived.Test.YtaajkamfeaafpaaUe
import Derived.KernelRfl
set_option linter.unusedVariables false
set_option linter.unusedSimpArgs false
namespace Go.Proofs.Ytaajkamfeaafpaa
open Go Go.RowKit K
theorem iLateFrames_c (ws : List Wood) (xs : List Repair) (mi : Int) (vws : Value) (vxs : Value) (w : World) (hGws : ∀ y ∈ ws, GWood y) (hsws : SR w 3 vws ws.length (flat encWood ws)) (hGxs : ∀ y ∈ xs, GRepair y) (hsxs : SR w 5 vxs xs.length (flat encRepair xs)) (zmi : In64 mi) : Calls Try.prog 25 ([vws, vxs, .int .i64 mi]).toArray w (fun e w' => RetSl 3 1 (ints (lateR ws xs mi)) ((lateR ws xs mi).length) (fun s => .tuple #[s, .bool (daysB ws xs mi)]) w e w') := by
  obtain ⟨aws, capws, rfl, hcapws, hmaxws⟩ := hsws.slice
  have hlenws := hsws.len_le
  obtain ⟨axs, capxs, rfl, hcapxs, hmaxxs⟩ := hsxs.slice
  have hlenxs := hsxs.len_le
  refine calls_ct Try.func25 Try.ntmps25 rfl rfl ?_
  refine ct_seq ?_
  refine ct_reg ?_
  refine rl_val gw_none (ov_assign rfl) rfl ?_
  refine rl_val gw_none (ov_assign rfl) rfl ?_
  refine rl_nil ?_
  refine at_then ?_
  refine ct_seq ?_
  refine ct_reg ?_
  refine rl_val gw_none (ov_move rfl) rfl ?_
  refine rl_val gw_none (ov_move rfl) rfl ?_
  refine rl_val gw_none (ov_move rfl) rfl ?_
  refine rl_callsl (ι := Nat × List Value) (fun i bo => .tuple #[sv bo (daysR ws xs mi).length i.1, .bool (daysB ws xs mi)]) (fun i => ints (daysR ws xs mi) ++ i.2) (fun i bo => Sl 1 bo (daysR ws xs mi).length i.1 (ints (daysR ws xs mi)) i.2) goes34 rfl (fun w1 hp => iDaysNeeded_c ws xs mi _ _ _ hGws (hsws.ext hp.ext0) hGxs (hsxs.ext hp.ext0) zmi) rfl (fun idy body hsdy => ?_)
  refine rl_val gw_none (ov_move rfl) rfl ?_
  refine rl_val gw_none (ov_extract rfl rfl) rfl ?_
  refine rl_val gw_none (ov_extract rfl rfl) rfl ?_
  refine rl_val gw_none (ov_assign rfl) rfl ?_
  refine rl_val gw_none (ov_assign rfl) rfl ?_
  refine rl_nil ?_
  refine at_then ?_
  refine ct_seq ?_
  refine ct_seq ?_
  refine ct_reg ?_
  refine rl_val gw_none (ov_move rfl) rfl ?_
  refine rl_val gw_none (ov_not rfl) rfl ?_
  refine rl_nil ?_
  refine at_then ?_
  first | refine ct_dec rfl (fun h1 => ?_) (fun h1 => ?_) | refine ct_ndec rfl (fun h1 => ?_) (fun h1 => ?_) | refine ct_eq rfl (fun h1 => ?_) (fun h1 => ?_) | refine ct_ne rfl (fun h1 => ?_) (fun h1 => ?_) | refine ct_not rfl (fun h1 => ?_) (fun h1 => ?_) | refine ct_cond rfl (fun h1 => ?_) (fun h1 => ?_)
  ·
    refine ct_seq ?_
    refine ct_reg ?_
    refine rl_val gw_none (ov_assign rfl) rfl ?_
    refine rl_val gw_none (ov_assign rfl) rfl ?_
    refine rl_nil ?_
    refine at_then ?_
    refine ct_ret ?_
    refine at_then_ret ?_
    refine at_ret2 Try.results25 (ro_tmp rfl) (ro_tmp rfl) (fun w1 hp => ?_)
    first | (rw [lateR_yes hB, hB, ← hol]; exact RetSl.own 999 hp rfl hsl) | (have hb : daysB ws xs mi = false := (by first | (simpa using h1; done) | exact daysB_no (by first | (left; simpa using g1) | (right; simpa using h1))); rw [lateR_no hb, hb]; first | exact RetSl.nil hp.ext0 | exact RetSl.lit 0 hp rfl rfl (by decide))
  ·
    have hB : daysB ws xs mi = true := by simpa using h1
    obtain ⟨hok, hmi⟩ := daysB_ok hB
    have hw := (repairs_woods hok).1
    have hx10 := (repairs_woods hok).2
    have hol := ordL_len ws xs
    have hdl : (daysR ws xs mi).length = xs.length := by rw [daysR_yes hB, dayL_len]
    refine ct_skip ?_
    refine at_then ?_
    refine ct_seq ?_
    refine ct_reg ?_
    refine rl_val gw_none (ov_assign rfl) rfl ?_
    refine rl_nil ?_
    refine at_then ?_
    refine ct_seq ?_
    refine ct_seq ?_
    refine ct_reg ?_
    refine rl_val gw_none (ov_move rfl) rfl ?_
    refine rl_val gw_none (ov_move rfl) rfl ?_
    refine rl_callsl (ι := Nat × List Value) (fun i bo => sv bo (ordL ws xs).length i.1) (fun i => flat encRepair (ordL ws xs) ++ i.2) (fun i bo => Sl 5 bo (ordL ws xs).length i.1 (flat encRepair (ordL ws xs)) i.2) goes70 rfl (fun w1 hp => workOrder_c ws xs _ _ _ hGws (hsws.ext hp.ext0) hGxs (hsxs.ext hp.ext0) hok) rfl (fun iwo bowo hswo => ?_)
    refine rl_val gw_none (ov_len Try.underlying37 rfl) rfl ?_
    refine rl_val gw_none (ov_move rfl) rfl ?_
    refine rl_nil ?_
    refine at_then ?_
    refine ct_block ?_
    refine ct_loopR (ι := Nat × Option Nat × Nat × List Value) (fun p0 => [(10, sv p0.2.1 (lateL ws (ordL ws xs) mi p0.1).length p0.2.2.1), (26, .int .i64 p0.1)]) [(6, _), (7, _), (8, _), (24, _), (25, _)] (fun p0 => [(p0.2.1, 3, ints (lateL ws (ordL ws xs) mi p0.1) ++ p0.2.2.2), _, _]) (fun p0 => p0.1 ≤ (ordL ws xs).length ∧ Sl 1 p0.2.1 (lateL ws (ordL ws xs) mi p0.1).length p0.2.2.1 (ints (lateL ws (ordL ws xs) mi p0.1)) p0.2.2.2) (fun p0 => (ordL ws xs).length - p0.1) ((0, none, 0, [])) (Sub.cons rfl (Sub.cons rfl (Sub.cons rfl (Sub.cons rfl (Sub.cons rfl Sub.nil))))) (fun _ hp => ((Hp.sub (Hp.pull (Hp.pull hp 1 rfl) 1 rfl) (List.sublist_append_left [_, _] _))).nil 3) (by (repeat' (first | exact Sub.nil | refine Sub.cons ?_ ?_)); all_goals (first | rfl | exact lkInt rfl (by omega))) ⟨Nat.zero_le _, Sl.nil0 _⟩ (fun p0 hp0 => ?_)
    obtain ⟨k, bo, cap, pad⟩ := p0
    obtain ⟨hk, hsl⟩ := hp0
    dsimp only at hk hsl
    try dsimp only
    have hll := lateL_len ws (ordL ws xs) mi k
    refine ct_seq ?_
    refine ct_reg ?_
    refine rl_val gw_none (ov_lss rfl rfl) rfl ?_
    refine rl_nil ?_
    refine at_then ?_
    refine ct_seq ?_
    first | refine ct_dec rfl (fun h2 => ?_) (fun h2 => ?_) | refine ct_ndec rfl (fun h2 => ?_) (fun h2 => ?_) | refine ct_eq rfl (fun h2 => ?_) (fun h2 => ?_) | refine ct_ne rfl (fun h2 => ?_) (fun h2 => ?_) | refine ct_not rfl (fun h2 => ?_) (fun h2 => ?_) | refine ct_cond rfl (fun h2 => ?_) (fun h2 => ?_)
    ·
      have hk2 : k < (ordL ws xs).length := by omega
      obtain ⟨bw0, rfl⟩ := slSome hswo (by omega)
      have hy := getLt hk2
      have hyb := ordL_good hok hy
      have hx := hy
      generalize (ordL ws xs)[k] = y at *
      have hyg := hyb
      unfold repairB inB at hyg
      simp only [Bool.and_eq_true, decide_eq_true_eq] at hyg
      obtain ⟨bd0, rfl⟩ := slSome hsdy (by omega)
      have hdx : (daysR ws xs mi)[k]? = some (dayV ws (ordL ws xs) mi k) := by rw [daysR_yes hB]; exact dayL_get (by omega)
      refine ct_skip ?_
      refine at_then ?_
      refine ct_seq ?_
      refine ct_block ?_
      refine ct_seq ?_
      refine ct_reg ?_
      refine rl_val gw_none (ov_move rfl) rfl ?_
      first | refine rl_val gw_none (ov_ix Try.underlying37 sz53 rfl rfl _ rfl (by omega)) rfl ?_ | refine rl_val gw_none (ov_ix Try.underlying37 sz53 rfl rfl (k) (by omega) (by omega)) rfl ?_
      refine rl_val gw_none (ov_loada 1 ag53 rfl rfl (vs := encRepair y) rfl (repCells hy _)) rfl ?_
      refine rl_alloc ze53 rfl (fun N1 => ?_)
      refine rl_val gw_none (ov_assign rfl) rfl ?_
      refine rl_store [] sz53 rfl rfl rfl rfl rfl (Nat.le_of_ble_eq_true rfl) ?_
      refine rl_nil ?_
      refine at_then ?_
      refine ct_seq ?_
      refine ct_dr 7 (by kernel_rfl) (by kernel_rfl) ?_
      refine ql_val gw_none (ov_move rfl) rfl ?_
      refine ql_val gw_none (ov_move rfl) rfl ?_
      first | refine ql_val gw_none (ov_ix Try.underlying34 sz3 rfl rfl _ rfl (by omega)) rfl ?_ | refine ql_val gw_none (ov_ix Try.underlying34 sz3 rfl rfl (k) (by omega) (by omega)) rfl ?_
      refine ql_val gw_none (ov_load 3 sc3 rfl rfl (intsAtP hdx _)) rfl ?_
      refine ql_val gw_none (ov_field fo53_4 rfl) rfl ?_
      first | refine ql_val gw_none (ov_load 0 sc3 rfl rfl rfl) rfl ?_ | refine ql_val gw_none (ov_load 0 sc3 rfl rfl (by assumption)) rfl ?_
      refine ql_val gw_none (ov_gtr rfl rfl) rfl ?_
      refine ql_nil ?_
      refine rl_nil ?_
      refine at_then ?_
      first | refine ct_dec rfl (fun h3 => ?_) (fun h3 => ?_) | refine ct_ndec rfl (fun h3 => ?_) (fun h3 => ?_) | refine ct_eq rfl (fun h3 => ?_) (fun h3 => ?_) | refine ct_ne rfl (fun h3 => ?_) (fun h3 => ?_) | refine ct_not rfl (fun h3 => ?_) (fun h3 => ?_) | refine ct_cond rfl (fun h3 => ?_) (fun h3 => ?_)
      ·
        refine ct_reg ?_
        refine rl_val gw_none (ov_move rfl) rfl ?_
        refine rl_val gw_none (ov_field fo53_0 rfl) rfl ?_
        first | refine rl_val gw_none (ov_load 0 sc3 rfl rfl rfl) rfl ?_ | refine rl_val gw_none (ov_load 0 sc3 rfl rfl (by assumption)) rfl ?_
        refine rl_calld (ι := Option Nat × Nat × List Value) (fun i => sv i.1 (putL (lateL ws (ordL ws xs) mi k) y.frame).length i.2.1) [_] [_, _, _] (fun i => [(i.1, 3, ints (putL (lateL ws (ordL ws xs) mi k) y.frame) ++ i.2.2)]) (fun i => Sl 1 i.1 (putL (lateL ws (ordL ws xs) mi k) y.frame).length i.2.1 (ints (putL (lateL ws (ordL ws xs) mi k) y.frame)) i.2.2) gw_none goes71 rfl (fun _ hq => (hq).pull 1 rfl) (fun w1 hp h0 => putInt_c (lateL ws (ordL ws xs) mi k) y.frame _ _ _ _ _ h0 hsl (lateL_ris _ _ _ _) (by omega)) rfl (fun iput hput => ?_)
        refine rl_val gw_none (ov_assign rfl) rfl ?_
        refine rl_nil ?_
        refine at_block ?_
        refine at_then ?_
        refine ct_reg ?_
        refine rl_val gw_none (ov_add rfl rfl (by omega)) rfl ?_
        refine rl_val gw_none (ov_move rfl) rfl ?_
        refine rl_nil ?_
        have hts := lateL_yes (ws := ws) (M := mi) hy (by first | omega | (simp at *; omega))
        exact at_backR (k + 1, iput.1, iput.2.1, iput.2.2) ⟨hk2, by dsimp only; rw [hts]; exact hput⟩ (by dsimp only; omega) (by dsimp only; rw [hts]; (repeat' (first | exact Sub.nil | refine Sub.cons ?_ ?_)); all_goals (first | rfl | exact lkInt rfl (by omega))) (Sub.cons rfl (Sub.cons rfl (Sub.cons rfl (Sub.cons rfl (Sub.cons rfl Sub.nil))))) (fun _ hp => ((Hp.sub (Hp.pull (Hp.pull (Hp.pull hp 3 rfl) 3 rfl) 2 rfl) (List.sublist_append_left [_, _, _] _))).cong (by dsimp only; rw [hts]; try rfl))
      ·
        refine ct_skip ?_
        refine at_block ?_
        refine at_then ?_
        refine ct_reg ?_
        refine rl_val gw_none (ov_add rfl rfl (by omega)) rfl ?_
        refine rl_val gw_none (ov_move rfl) rfl ?_
        refine rl_nil ?_
        have hts := lateL_no (ws := ws) (M := mi) hy (by first | omega | (simp at *; omega))
        exact at_backR (k + 1, bo, cap, pad) ⟨hk2, by dsimp only; rw [hts]; exact hsl⟩ (by dsimp only; omega) (by dsimp only; rw [hts]; (repeat' (first | exact Sub.nil | refine Sub.cons ?_ ?_)); all_goals (first | rfl | exact lkInt rfl (by omega))) (Sub.cons rfl (Sub.cons rfl (Sub.cons rfl (Sub.cons rfl (Sub.cons rfl Sub.nil))))) (fun _ hp => ((Hp.sub (Hp.pull (Hp.pull (Hp.pull hp 3 rfl) 3 rfl) 3 rfl) (List.sublist_append_left [_, _, _] _))).cong (by dsimp only; rw [hts]; try rfl))
    ·
      have hke : k = (ordL ws xs).length := by omega
      subst hke
      refine ct_exit ?_
      refine at_then_exit ?_
      refine at_then_exit ?_
      refine at_block_hit ?_
      refine at_then ?_
      refine ct_seq ?_
      refine ct_reg ?_
      refine rl_val gw_none (ov_move rfl) rfl ?_
      refine rl_val gw_none (ov_assign rfl) rfl ?_
      refine rl_val gw_none (ov_assign rfl) rfl ?_
      refine rl_nil ?_
      refine at_then ?_
      refine ct_ret ?_
      refine at_ret2 Try.results25 (ro_tmp rfl) (ro_tmp rfl) (fun w1 hp => ?_)
      first | (rw [lateR_yes hB, hB, ← hol]; exact RetSl.own 0 hp rfl hsl) | (have hb : daysB ws xs mi = false := (by first | (simpa using h1; done) | exact daysB_no (by first | (left; simpa using g1) | (right; simpa using h1))); rw [lateR_no hb, hb]; first | exact RetSl.nil hp.ext0 | exact RetSl.lit 0 hp rfl rfl (by decide))

theorem sLateFrames_c (ws : List Wood) (xs : List Repair) (mi : Int) (vws : Value) (vxs : Value) (w : World) (hGws : ∀ y ∈ ws, GWood y) (hsws : SR w 3 vws ws.length (flat encWood ws)) (hGxs : ∀ y ∈ xs, GRepair y) (hsxs : SR w 5 vxs xs.length (flat encRepair xs)) (zmi : In64 mi) : Calls Try.prog 23 ([vws, vxs, .int .i64 mi]).toArray w (fun e w' => RetSl 3 1 (ints (lateR ws xs mi)) ((lateR ws xs mi).length) (fun s => .tuple #[s, .bool (daysB ws xs mi)]) w e w') := by
  obtain ⟨aws, capws, rfl, hcapws, hmaxws⟩ := hsws.slice
  have hlenws := hsws.len_le
  obtain ⟨axs, capxs, rfl, hcapxs, hmaxxs⟩ := hsxs.slice
  have hlenxs := hsxs.len_le
  refine calls_ct Try.func23 Try.ntmps23 rfl rfl ?_
  refine ct_seq ?_
  refine ct_reg ?_
  refine rl_val gw_none (ov_assign rfl) rfl ?_
  refine rl_val gw_none (ov_assign rfl) rfl ?_
  refine rl_nil ?_
  refine at_then ?_
  refine ct_seq ?_
  refine ct_reg ?_
  refine rl_bslice Try.underlying34 ze3 sz3 rfl rfl rfl rfl rfl rfl (fun N1 => ?_)
  refine rl_val gw_none (ov_assign rfl) rfl ?_
  refine rl_nil ?_
  refine at_then ?_
  refine ct_seq ?_
  refine ct_seq ?_
  refine ct_reg ?_
  refine rl_val gw_none (ov_move rfl) rfl ?_
  refine rl_val gw_none (ov_move rfl) rfl ?_
  refine rl_callv gw_none goes65 rfl (fun w1 hp => l23Good_c ws xs _ _ _ hGws (hsws.ext hp.ext0) hGxs (hsxs.ext hp.ext0)) rfl ?_
  refine rl_val gw_none (ov_not rfl) rfl ?_
  refine rl_val gw_none (ov_move rfl) rfl ?_
  refine rl_split (t := 17) rfl (fun g1 => ?_) (fun g1 => ?_)
  ·
    have g1' := g1
    try simp only [Bool.not_eq_true', Bool.not_eq_false', Bool.not_not, decide_eq_true_eq, decide_eq_false_iff_not, beq_iff_eq, beq_eq_false_iff_ne, bne_iff_ne, bne_eq_false_iff_eq, Bool.and_eq_true, Bool.or_eq_true, Bool.and_eq_false_iff, Bool.or_eq_false_iff, inB] at g1'
    refine rl_skip (gw_not rfl rfl g1) rfl ?_
    refine rl_skip (gw_not rfl rfl g1) rfl ?_
    refine rl_skip (gw_not rfl rfl g1) rfl ?_
    refine rl_val gw_none (ov_pick_t rfl g1 rfl) rfl ?_
    refine rl_nil ?_
    refine at_then ?_
    refine ct_true rfl rfl ?_
    refine ct_seq ?_
    refine ct_reg ?_
    refine rl_val gw_none (ov_move rfl) rfl ?_
    refine rl_val gw_none (ov_assign rfl) rfl ?_
    refine rl_val gw_none (ov_assign rfl) rfl ?_
    refine rl_nil ?_
    refine at_then ?_
    refine ct_ret ?_
    refine at_then_ret ?_
    refine at_ret2 Try.results23 (ro_tmp rfl) (ro_tmp rfl) (fun w1 hp => ?_)
    first | (rw [lateR_yes hB, hB, ← hol]; exact RetSl.own 0 hp rfl hsl) | (have hb : daysB ws xs mi = false := (by first | (simpa using h1; done) | exact daysB_no (by first | (left; simpa using g1) | (right; simpa using h1))); rw [lateR_no hb, hb]; first | exact RetSl.nil hp.ext0 | exact RetSl.lit 0 hp rfl rfl (by decide))
  ·
    have g1' := g1
    try simp only [Bool.not_eq_true', Bool.not_eq_false', Bool.not_not, decide_eq_true_eq, decide_eq_false_iff_not, beq_iff_eq, beq_eq_false_iff_ne, bne_iff_ne, bne_eq_false_iff_eq, Bool.and_eq_true, Bool.or_eq_true, Bool.and_eq_false_iff, Bool.or_eq_false_iff, inB] at g1'
    refine rl_val (gw_some rfl rfl g1) (ov_move rfl) rfl ?_
    refine rl_callv (gw_some rfl rfl g1) goes64 rfl (fun w1 hp => l1In_c _ _ _ _) rfl ?_
    refine rl_val (gw_some rfl rfl g1) (ov_not rfl) rfl ?_
    refine rl_val gw_none (ov_pick_f rfl g1 rfl) rfl ?_
    refine rl_nil ?_
    refine at_then ?_
    first | refine ct_dec rfl (fun h1 => ?_) (fun h1 => ?_) | refine ct_ndec rfl (fun h1 => ?_) (fun h1 => ?_) | refine ct_eq rfl (fun h1 => ?_) (fun h1 => ?_) | refine ct_ne rfl (fun h1 => ?_) (fun h1 => ?_) | refine ct_not rfl (fun h1 => ?_) (fun h1 => ?_) | refine ct_cond rfl (fun h1 => ?_) (fun h1 => ?_)
    ·
      refine ct_seq ?_
      refine ct_reg ?_
      refine rl_val gw_none (ov_move rfl) rfl ?_
      refine rl_val gw_none (ov_assign rfl) rfl ?_
      refine rl_val gw_none (ov_assign rfl) rfl ?_
      refine rl_nil ?_
      refine at_then ?_
      refine ct_ret ?_
      refine at_then_ret ?_
      refine at_ret2 Try.results23 (ro_tmp rfl) (ro_tmp rfl) (fun w1 hp => ?_)
      first | (rw [lateR_yes hB, hB, ← hol]; exact RetSl.own 0 hp rfl hsl) | (have hb : daysB ws xs mi = false := (by first | (simpa using h1; done) | exact daysB_no (by first | (left; simpa using g1) | (right; simpa using h1))); rw [lateR_no hb, hb]; first | exact RetSl.nil hp.ext0 | exact RetSl.lit 0 hp rfl rfl (by decide))
    ·
      have hok : repairsB ws xs = true := by simpa using g1
      have hw := (repairs_woods hok).1
      have hx10 := (repairs_woods hok).2
      have hol := ordL_len ws xs
      have hmi := h1
      simp only [Bool.not_eq_false', inB, Bool.and_eq_true, decide_eq_true_eq] at hmi
      have hB : daysB ws xs mi = true := daysB_yes hok (by simp only [inB, Bool.and_eq_true, decide_eq_true_eq]; omega)
      refine ct_skip ?_
      refine at_then ?_
      refine ct_seq ?_
      refine ct_reg ?_
      refine rl_val gw_none (ov_move rfl) rfl ?_
      refine rl_val gw_none (ov_move rfl) rfl ?_
      refine rl_callsl (ι := Nat × List Value) (fun i bo => sv bo (ordL ws xs).length i.1) (fun i => flat encRepair (ordL ws xs) ++ i.2) (fun i bo => Sl 5 bo (ordL ws xs).length i.1 (flat encRepair (ordL ws xs)) i.2) goes66 rfl (fun w1 hp => l23Order_c ws xs _ _ _ hGws (hsws.ext hp.ext0) hGxs (hsxs.ext hp.ext0) hok) rfl (fun iwo bowo hswo => ?_)
      refine rl_val gw_none (ov_assign rfl) rfl ?_
      refine rl_nil ?_
      refine at_then ?_
      refine ct_seq ?_
      refine ct_reg ?_
      refine rl_val gw_none (ov_move rfl) rfl ?_
      refine rl_val gw_none (ov_move rfl) rfl ?_
      refine rl_val gw_none (ov_move rfl) rfl ?_
      refine rl_callsl (ι := Nat × List Value) (fun i bo => sv bo (ordL ws xs).length i.1) (fun i => ints (dayL ws (ordL ws xs) mi (ordL ws xs).length) ++ i.2) (fun i bo => Sl 1 bo (ordL ws xs).length i.1 (ints (dayL ws (ordL ws xs) mi (ordL ws xs).length)) i.2) goes67 rfl (fun w1 hp => l23Days_c ws (ordL ws xs) mi _ _ _ hGws (hsws.ext hp.ext0) (hp.slsr 0 rfl hswo) hw (fun k y hy => ordL_good hok hy) (sumM_bd hok) (by omega) (by omega)) rfl (fun idy body hsdy => ?_)
      refine rl_val gw_none (ov_assign rfl) rfl ?_
      refine rl_nil ?_
      refine at_then ?_
      refine ct_seq ?_
      refine ct_seq ?_
      refine ct_reg ?_
      refine rl_val gw_none (ov_assign rfl) rfl ?_
      refine rl_nil ?_
      refine at_then ?_
      refine ct_block ?_
      refine ct_loopR (ι := Nat × Option Nat × Nat × List Value) (fun p0 => [(8, sv p0.2.1 (lateL ws (ordL ws xs) mi p0.1).length p0.2.2.1), (11, .int .i64 p0.1)]) [(6, _), (7, _), (9, _), (10, _)] (fun p0 => [(p0.2.1, 3, ints (lateL ws (ordL ws xs) mi p0.1) ++ p0.2.2.2), _, _]) (fun p0 => p0.1 ≤ (ordL ws xs).length ∧ Sl 1 p0.2.1 (lateL ws (ordL ws xs) mi p0.1).length p0.2.2.1 (ints (lateL ws (ordL ws xs) mi p0.1)) p0.2.2.2) (fun p0 => (ordL ws xs).length - p0.1) ((0, some N1, 0, [])) (Sub.cons rfl (Sub.cons rfl (Sub.cons rfl (Sub.cons rfl Sub.nil)))) (fun _ hp => (Hp.sub (Hp.pull (Hp.pull (Hp.pull hp 0 rfl) 1 rfl) 2 rfl) (List.sublist_append_left [_, _, _] _))) (by (repeat' (first | exact Sub.nil | refine Sub.cons ?_ ?_)); all_goals (first | rfl | exact lkInt rfl (by omega))) ⟨Nat.zero_le _, Sl.lit rfl (Nat.zero_le _)⟩ (fun p0 hp0 => ?_)
      obtain ⟨k, bo, cap, pad⟩ := p0
      obtain ⟨hk, hsl⟩ := hp0
      dsimp only at hk hsl
      try dsimp only
      have hll := lateL_len ws (ordL ws xs) mi k
      refine ct_seq ?_
      refine ct_seq ?_
      refine ct_reg ?_
      refine rl_val gw_none (ov_move rfl) rfl ?_
      refine rl_val gw_none (ov_move rfl) rfl ?_
      refine rl_val gw_none (ov_len Try.underlying37 rfl) rfl ?_
      refine rl_val gw_none (ov_lss rfl rfl) rfl ?_
      refine rl_nil ?_
      refine at_then ?_
      first | refine ct_dec rfl (fun h2 => ?_) (fun h2 => ?_) | refine ct_ndec rfl (fun h2 => ?_) (fun h2 => ?_) | refine ct_eq rfl (fun h2 => ?_) (fun h2 => ?_) | refine ct_ne rfl (fun h2 => ?_) (fun h2 => ?_) | refine ct_not rfl (fun h2 => ?_) (fun h2 => ?_) | refine ct_cond rfl (fun h2 => ?_) (fun h2 => ?_)
      ·
        have hk2 : k < (ordL ws xs).length := by omega
        obtain ⟨bw0, rfl⟩ := slSome hswo (by omega)
        have hy := getLt hk2
        have hyb := ordL_good hok hy
        have hx := hy
        generalize (ordL ws xs)[k] = y at *
        have hyg := hyb
        unfold repairB inB at hyg
        simp only [Bool.and_eq_true, decide_eq_true_eq] at hyg
        obtain ⟨bd0, rfl⟩ := slSome hsdy (by omega)
        have hdx : (dayL ws (ordL ws xs) mi (ordL ws xs).length)[k]? = some (dayV ws (ordL ws xs) mi k) := dayL_get (by omega)
        refine ct_skip ?_
        refine at_then ?_
        refine ct_seq ?_
        refine ct_block ?_
        refine ct_seq ?_
        refine ct_dr 10 (by kernel_rfl) (by kernel_rfl) ?_
        refine ql_val gw_none (ov_move rfl) rfl ?_
        refine ql_val gw_none (ov_move rfl) rfl ?_
        first | refine ql_val gw_none (ov_ix Try.underlying34 sz3 rfl rfl _ rfl (by omega)) rfl ?_ | refine ql_val gw_none (ov_ix Try.underlying34 sz3 rfl rfl (k) (by omega) (by omega)) rfl ?_
        refine ql_val gw_none (ov_load 2 sc3 rfl rfl (intsAtP hdx _)) rfl ?_
        refine ql_val gw_none (ov_move rfl) rfl ?_
        refine ql_val gw_none (ov_move rfl) rfl ?_
        first | refine ql_val gw_none (ov_ix Try.underlying37 sz53 rfl rfl _ rfl (by omega)) rfl ?_ | refine ql_val gw_none (ov_ix Try.underlying37 sz53 rfl rfl (k) (by omega) (by omega)) rfl ?_
        refine ql_val gw_none (ov_field fo53_4 rfl) rfl ?_
        refine ql_val gw_none (ov_load 1 sc3 rfl rfl (flatGet encRepair_len (f := 4) hy rfl _)) rfl ?_
        refine ql_val gw_none (ov_gtr rfl rfl) rfl ?_
        refine ql_nil ?_
        refine rl_nil ?_
        refine at_then ?_
        first | refine ct_dec rfl (fun h3 => ?_) (fun h3 => ?_) | refine ct_ndec rfl (fun h3 => ?_) (fun h3 => ?_) | refine ct_eq rfl (fun h3 => ?_) (fun h3 => ?_) | refine ct_ne rfl (fun h3 => ?_) (fun h3 => ?_) | refine ct_not rfl (fun h3 => ?_) (fun h3 => ?_) | refine ct_cond rfl (fun h3 => ?_) (fun h3 => ?_)
        ·
          refine ct_reg ?_
          refine rl_val gw_none (ov_move rfl) rfl ?_
          refine rl_val gw_none (ov_move rfl) rfl ?_
          refine rl_val gw_none (ov_move rfl) rfl ?_
          first | refine rl_val gw_none (ov_ix Try.underlying37 sz53 rfl rfl _ rfl (by omega)) rfl ?_ | refine rl_val gw_none (ov_ix Try.underlying37 sz53 rfl rfl (k) (by omega) (by omega)) rfl ?_
          refine rl_val gw_none (ov_field fo53_0 rfl) rfl ?_
          refine rl_val gw_none (ov_load 1 sc3 rfl rfl (flatGet encRepair_len (f := 0) hy rfl _)) rfl ?_
          refine rl_calld (ι := Option Nat × Nat × List Value) (fun i => sv i.1 (putL (lateL ws (ordL ws xs) mi k) y.frame).length i.2.1) [_] [_, _] (fun i => [(i.1, 3, ints (putL (lateL ws (ordL ws xs) mi k) y.frame) ++ i.2.2)]) (fun i => Sl 1 i.1 (putL (lateL ws (ordL ws xs) mi k) y.frame).length i.2.1 (ints (putL (lateL ws (ordL ws xs) mi k) y.frame)) i.2.2) gw_none goes68 rfl (fun _ hq => (hq).pull 0 rfl) (fun w1 hp h0 => l1Put_c (lateL ws (ordL ws xs) mi k) y.frame _ _ _ _ _ h0 hsl (lateL_ris _ _ _ _) (by omega)) rfl (fun iput hput => ?_)
          refine rl_val gw_none (ov_assign rfl) rfl ?_
          refine rl_nil ?_
          refine at_block ?_
          refine at_then ?_
          refine ct_reg ?_
          refine rl_val gw_none (ov_move rfl) rfl ?_
          refine rl_val gw_none (ov_add rfl rfl (by omega)) rfl ?_
          refine rl_val gw_none (ov_assign rfl) rfl ?_
          refine rl_nil ?_
          have hts := lateL_yes (ws := ws) (M := mi) hy (by first | omega | (simp at *; omega))
          exact at_backR (k + 1, iput.1, iput.2.1, iput.2.2) ⟨hk2, by dsimp only; rw [hts]; exact hput⟩ (by dsimp only; omega) (by dsimp only; rw [hts]; (repeat' (first | exact Sub.nil | refine Sub.cons ?_ ?_)); all_goals (first | rfl | exact lkInt rfl (by omega))) (Sub.cons rfl (Sub.cons rfl (Sub.cons rfl (Sub.cons rfl Sub.nil)))) (fun _ hp => ((Hp.sub (Hp.pull (Hp.pull (Hp.pull hp 2 rfl) 2 rfl) 2 rfl) (List.sublist_append_left [_, _, _] _))).cong (by dsimp only; rw [hts]; try rfl))
        ·
          refine ct_skip ?_
          refine at_block ?_
          refine at_then ?_
          refine ct_reg ?_
          refine rl_val gw_none (ov_move rfl) rfl ?_
          refine rl_val gw_none (ov_add rfl rfl (by omega)) rfl ?_
          refine rl_val gw_none (ov_assign rfl) rfl ?_
          refine rl_nil ?_
          have hts := lateL_no (ws := ws) (M := mi) hy (by first | omega | (simp at *; omega))
          exact at_backR (k + 1, bo, cap, pad) ⟨hk2, by dsimp only; rw [hts]; exact hsl⟩ (by dsimp only; omega) (by dsimp only; rw [hts]; (repeat' (first | exact Sub.nil | refine Sub.cons ?_ ?_)); all_goals (first | rfl | exact lkInt rfl (by omega))) (Sub.cons rfl (Sub.cons rfl (Sub.cons rfl (Sub.cons rfl Sub.nil)))) (fun _ hp => ((Hp.sub (Hp.pull (Hp.pull (Hp.pull hp 2 rfl) 2 rfl) 2 rfl) (List.sublist_append_left [_, _, _] _))).cong (by dsimp only; rw [hts]; try rfl))
      ·
        have hke : k = (ordL ws xs).length := by omega
        subst hke
        refine ct_exit ?_
        refine at_then_exit ?_
        refine at_then_exit ?_
        refine at_block_hit ?_
        refine at_then ?_
        refine ct_seq ?_
        refine ct_reg ?_
        refine rl_val gw_none (ov_move rfl) rfl ?_
        refine rl_val gw_none (ov_assign rfl) rfl ?_
        refine rl_val gw_none (ov_assign rfl) rfl ?_
        refine rl_nil ?_
        refine at_then ?_
        refine ct_ret ?_
        refine at_ret2 Try.results23 (ro_tmp rfl) (ro_tmp rfl) (fun w1 hp => ?_)
        first | (rw [lateR_yes hB, hB, ← hol]; exact RetSl.own 0 hp rfl hsl) | (have hb : daysB ws xs mi = false := (by first | (simpa using h1; done) | exact daysB_no (by first | (left; simpa using g1) | (right; simpa using h1))); rw [lateR_no hb, hb]; first | exact RetSl.nil hp.ext0 | exact RetSl.lit 0 hp rfl rfl (by decide))
end Go.Proofs.Ytaajkamfeaafpaa
