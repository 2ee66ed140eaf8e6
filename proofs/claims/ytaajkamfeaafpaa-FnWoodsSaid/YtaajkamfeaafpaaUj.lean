import Derived.Test.YtaajkamfeaafpaaUc
import Derived.Test.YtaajkamfeaafpaaKo
import Derived.KernelRfl
set_option linter.unusedVariables false
set_option linter.unusedSimpArgs false
namespace Go.Proofs.Ytaajkamfeaafpaa
open Go Go.RowKit K
theorem iReplaceWood_c (ws : List Wood) (xs : List Repair) (fa : Int) (tb : Int) (vws : Value) (vxs : Value) (w : World) (hGws : ∀ y ∈ ws, GWood y) (hsws : SR w 3 vws ws.length (flat encWood ws)) (hGxs : ∀ y ∈ xs, GRepair y) (hsxs : SR w 5 vxs xs.length (flat encRepair xs)) (zfa : In64 fa) (ztb : In64 tb) : Calls Try.prog 50 ([vws, vxs, .int .i64 fa, .int .i64 tb]).toArray w (fun e w' => RetSl 53 5 (flat encRepair (rwL ws xs fa tb)) ((rwL ws xs fa tb).length) (fun s => .tuple #[s, .int .i64 (rwS ws xs fa tb), .bool (rwB ws xs fa tb)]) w e w') := by
  obtain ⟨aws, capws, rfl, hcapws, hmaxws⟩ := hsws.slice
  have hlenws := hsws.len_le
  obtain ⟨axs, capxs, rfl, hcapxs, hmaxxs⟩ := hsxs.slice
  have hlenxs := hsxs.len_le
  refine calls_ct Try.func50 Try.ntmps50 rfl rfl ?_
  refine ct_seq ?_
  refine ct_reg ?_
  refine rl_val gw_none (ov_assign rfl) rfl ?_
  refine rl_val gw_none (ov_assign rfl) rfl ?_
  refine rl_val gw_none (ov_assign rfl) rfl ?_
  refine rl_nil ?_
  refine at_then ?_
  refine ct_seq ?_
  refine ct_seq ?_
  refine ct_reg ?_
  refine rl_val gw_none (ov_move rfl) rfl ?_
  refine rl_val gw_none (ov_move rfl) rfl ?_
  refine rl_callv gw_none goes39 rfl (fun w1 hp => iAreRepairs_c ws xs _ _ _ hGws (hsws.ext hp.ext0) hGxs (hsxs.ext hp.ext0)) rfl ?_
  refine rl_val gw_none (ov_not rfl) rfl ?_
  refine rl_val gw_none (ov_move rfl) rfl ?_
  refine rl_split (t := 19) rfl (fun g1 => ?_) (fun g1 => ?_)
  ·
    have g1' := g1
    try simp only [Bool.not_eq_true', Bool.not_eq_false', Bool.not_not, decide_eq_true_eq, decide_eq_false_iff_not, beq_iff_eq, beq_eq_false_iff_ne, bne_iff_ne, bne_eq_false_iff_eq, Bool.and_eq_true, Bool.or_eq_true, Bool.and_eq_false_iff, Bool.or_eq_false_iff, inB] at g1'
    refine rl_skip (gw_not rfl rfl g1) rfl ?_
    refine rl_skip (gw_not rfl rfl g1) rfl ?_
    refine rl_skip (gw_not rfl rfl g1) rfl ?_
    refine rl_skip (gw_not rfl rfl g1) rfl ?_
    refine rl_val gw_none (ov_pick_t rfl g1 rfl) rfl ?_
    refine rl_val gw_none (ov_move rfl) rfl ?_
    refine rl_skip (gw_not rfl rfl rfl) rfl ?_
    refine rl_skip (gw_not rfl rfl rfl) rfl ?_
    refine rl_skip (gw_not rfl rfl rfl) rfl ?_
    refine rl_skip (gw_not rfl rfl rfl) rfl ?_
    refine rl_val gw_none (ov_pick_t rfl rfl rfl) rfl ?_
    refine rl_nil ?_
    refine at_then ?_
    refine ct_true rfl rfl ?_
    refine ct_seq ?_
    refine ct_reg ?_
    refine rl_val gw_none (ov_assign rfl) rfl ?_
    refine rl_val gw_none (ov_assign rfl) rfl ?_
    refine rl_val gw_none (ov_assign rfl) rfl ?_
    refine rl_nil ?_
    refine at_then ?_
    refine ct_ret ?_
    refine at_then_ret ?_
    refine at_ret3 Try.results50 (ro_tmp rfl) (ro_tmp rfl) (ro_tmp rfl) (fun w1 hp => ?_)
    first | (rw [(rw_yes hB).1, (rw_yes hB).2, hB, ← mixL_end]; have hlz : (mixL fa tb xs xs.length).length = (([] : List Repair) ++ xs).length := mixL_len (Nat.le_refl _); rw [hlz]; exact RetSl.own 999 hp rfl (by rw [← hlz]; exact slSameG encRepair_len hsq2 (mixL_len (Nat.le_refl _)))) | (have hb : rwB ws xs fa tb = false := rwB_bad (by first | (left; simpa using g1) | (right; left; simpa using g2) | (right; right; simpa using h1)); rw [(rw_no hb).1, (rw_no hb).2, hb]; first | exact RetSl.nil hp.ext0 | exact RetSl.lit 0 hp rfl rfl (by decide))
  ·
    have g1' := g1
    try simp only [Bool.not_eq_true', Bool.not_eq_false', Bool.not_not, decide_eq_true_eq, decide_eq_false_iff_not, beq_iff_eq, beq_eq_false_iff_ne, bne_iff_ne, bne_eq_false_iff_eq, Bool.and_eq_true, Bool.or_eq_true, Bool.and_eq_false_iff, Bool.or_eq_false_iff, inB] at g1'
    refine rl_val (gw_some rfl rfl g1) (ov_move rfl) rfl ?_
    refine rl_val (gw_some rfl rfl g1) (ov_move rfl) rfl ?_
    refine rl_callv (gw_some rfl rfl g1) goes80 rfl (fun w1 hp => isWood_c _ _ _ _ _ hlenws) rfl ?_
    refine rl_val (gw_some rfl rfl g1) (ov_not rfl) rfl ?_
    refine rl_val gw_none (ov_pick_f rfl g1 rfl) rfl ?_
    refine rl_val gw_none (ov_move rfl) rfl ?_
    refine rl_split (t := 25) rfl (fun g2 => ?_) (fun g2 => ?_)
    ·
      have g2' := g2
      try simp only [Bool.not_eq_true', Bool.not_eq_false', Bool.not_not, decide_eq_true_eq, decide_eq_false_iff_not, beq_iff_eq, beq_eq_false_iff_ne, bne_iff_ne, bne_eq_false_iff_eq, Bool.and_eq_true, Bool.or_eq_true, Bool.and_eq_false_iff, Bool.or_eq_false_iff, inB] at g2'
      refine rl_skip (gw_not rfl rfl g2) rfl ?_
      refine rl_skip (gw_not rfl rfl g2) rfl ?_
      refine rl_skip (gw_not rfl rfl g2) rfl ?_
      refine rl_skip (gw_not rfl rfl g2) rfl ?_
      refine rl_val gw_none (ov_pick_t rfl g2 rfl) rfl ?_
      refine rl_nil ?_
      refine at_then ?_
      refine ct_true rfl rfl ?_
      refine ct_seq ?_
      refine ct_reg ?_
      refine rl_val gw_none (ov_assign rfl) rfl ?_
      refine rl_val gw_none (ov_assign rfl) rfl ?_
      refine rl_val gw_none (ov_assign rfl) rfl ?_
      refine rl_nil ?_
      refine at_then ?_
      refine ct_ret ?_
      refine at_then_ret ?_
      refine at_ret3 Try.results50 (ro_tmp rfl) (ro_tmp rfl) (ro_tmp rfl) (fun w1 hp => ?_)
      first | (rw [(rw_yes hB).1, (rw_yes hB).2, hB, ← mixL_end]; have hlz : (mixL fa tb xs xs.length).length = (([] : List Repair) ++ xs).length := mixL_len (Nat.le_refl _); rw [hlz]; exact RetSl.own 999 hp rfl (by rw [← hlz]; exact slSameG encRepair_len hsq2 (mixL_len (Nat.le_refl _)))) | (have hb : rwB ws xs fa tb = false := rwB_bad (by first | (left; simpa using g1) | (right; left; simpa using g2) | (right; right; simpa using h1)); rw [(rw_no hb).1, (rw_no hb).2, hb]; first | exact RetSl.nil hp.ext0 | exact RetSl.lit 0 hp rfl rfl (by decide))
    ·
      have g2' := g2
      try simp only [Bool.not_eq_true', Bool.not_eq_false', Bool.not_not, decide_eq_true_eq, decide_eq_false_iff_not, beq_iff_eq, beq_eq_false_iff_ne, bne_iff_ne, bne_eq_false_iff_eq, Bool.and_eq_true, Bool.or_eq_true, Bool.and_eq_false_iff, Bool.or_eq_false_iff, inB] at g2'
      refine rl_val (gw_some rfl rfl g2) (ov_move rfl) rfl ?_
      refine rl_val (gw_some rfl rfl g2) (ov_move rfl) rfl ?_
      refine rl_callv (gw_some rfl rfl g2) goes80 rfl (fun w1 hp => isWood_c _ _ _ _ _ hlenws) rfl ?_
      refine rl_val (gw_some rfl rfl g2) (ov_not rfl) rfl ?_
      refine rl_val gw_none (ov_pick_f rfl g2 rfl) rfl ?_
      refine rl_nil ?_
      refine at_then ?_
      first | refine ct_dec rfl (fun h1 => ?_) (fun h1 => ?_) | refine ct_ndec rfl (fun h1 => ?_) (fun h1 => ?_) | refine ct_eq rfl (fun h1 => ?_) (fun h1 => ?_) | refine ct_ne rfl (fun h1 => ?_) (fun h1 => ?_) | refine ct_not rfl (fun h1 => ?_) (fun h1 => ?_) | refine ct_cond rfl (fun h1 => ?_) (fun h1 => ?_)
      ·
        refine ct_seq ?_
        refine ct_reg ?_
        refine rl_val gw_none (ov_assign rfl) rfl ?_
        refine rl_val gw_none (ov_assign rfl) rfl ?_
        refine rl_val gw_none (ov_assign rfl) rfl ?_
        refine rl_nil ?_
        refine at_then ?_
        refine ct_ret ?_
        refine at_then_ret ?_
        refine at_ret3 Try.results50 (ro_tmp rfl) (ro_tmp rfl) (ro_tmp rfl) (fun w1 hp => ?_)
        first | (rw [(rw_yes hB).1, (rw_yes hB).2, hB, ← mixL_end]; have hlz : (mixL fa tb xs xs.length).length = (([] : List Repair) ++ xs).length := mixL_len (Nat.le_refl _); rw [hlz]; exact RetSl.own 999 hp rfl (by rw [← hlz]; exact slSameG encRepair_len hsq2 (mixL_len (Nat.le_refl _)))) | (have hb : rwB ws xs fa tb = false := rwB_bad (by first | (left; simpa using g1) | (right; left; simpa using g2) | (right; right; simpa using h1)); rw [(rw_no hb).1, (rw_no hb).2, hb]; first | exact RetSl.nil hp.ext0 | exact RetSl.lit 0 hp rfl rfl (by decide))
      ·
        have hok : repairsB ws xs = true := by simpa using g1
        have hw := (repairs_woods hok).1
        have hx10 := (repairs_woods hok).2
        have hol := ordL_len ws xs
        have hfb : inB fa 0 ((ws.length : Int) - 1) = true := by simpa using g2
        have htb : inB tb 0 ((ws.length : Int) - 1) = true := by simpa using h1
        have hB : rwB ws xs fa tb = true := by unfold rwB; rw [hok, hfb, htb]; rfl
        have htr := htb
        simp only [inB, Bool.and_eq_true, decide_eq_true_eq] at htr
        refine ct_skip ?_
        refine at_then ?_
        refine ct_seq ?_
        refine ct_reg ?_
        refine rl_bslice Try.underlying37 ze53 sz53 rfl rfl rfl rfl rfl rfl (fun N1 => ?_)
        refine rl_val gw_none (ov_move rfl) rfl ?_
        refine rl_appT (flat encRepair) ((flat_append _)) [] (bo := some N1) (acc := []) Try.underlying37 ze53 sz53 rfl rfl by53 rfl rfl rfl (Sl.lit rfl (by first | decide | (unfold maxLen; simp; done) | (unfold maxLen; simp; omega))) (xs) rfl (fun w1 hp => hsxs.ext hp.ext0) (flat_one encRepair_one _) (by unfold maxLen; simp; omega) (by simp; omega) rfl (fun boq1 capq1 padq1 hsq1 => ?_)
        have hsq2 : Sl 5 boq1 xs.length capq1 (flat encRepair xs) padq1 := hsq1
        have hnl : (([] : List Repair) ++ xs).length = xs.length := rfl
        refine rl_val gw_none (ov_assign rfl) rfl ?_
        refine rl_nil ?_
        refine at_then ?_
        refine ct_seq ?_
        refine ct_reg ?_
        refine rl_val gw_none (ov_assign rfl) rfl ?_
        refine rl_nil ?_
        refine at_then ?_
        refine ct_seq ?_
        refine ct_seq ?_
        refine ct_reg ?_
        refine rl_val gw_none (ov_move rfl) rfl ?_
        refine rl_val gw_none (ov_len Try.underlying37 rfl) rfl ?_
        refine rl_val gw_none (ov_move rfl) rfl ?_
        refine rl_nil ?_
        refine at_then ?_
        refine ct_block ?_
        refine ct_loopR (ι := Nat) (fun k => [(12, .int .i64 (savL ws fa tb xs k)), (36, .int .i64 k)]) [(0, _), (2, _), (3, _), (8, _), (9, _), (10, _), (11, _), (34, _), (35, _)] (fun k => [(boq1, 53, flat encRepair (mixL fa tb xs k) ++ padq1)]) (fun k => k ≤ xs.length) (fun k => xs.length - k) (0) (Sub.cons rfl (Sub.cons rfl (Sub.cons rfl (Sub.cons rfl (Sub.cons rfl (Sub.cons rfl (Sub.cons rfl (Sub.cons rfl (Sub.cons rfl Sub.nil))))))))) (fun _ hp => ((Hp.sub (Hp.pull hp 0 rfl) (List.sublist_append_left [_] _))).cong (by rw [mixL_0]; rfl)) (by (repeat' (first | exact Sub.nil | refine Sub.cons ?_ ?_)); all_goals (first | rfl | exact lkInt rfl (by omega))) (by first | exact True.intro | omega | (dsimp only; omega) | (dsimp only at *; omega)) (fun k hk => ?_)
        refine ct_seq ?_
        refine ct_reg ?_
        refine rl_val gw_none (ov_lss rfl rfl) rfl ?_
        refine rl_nil ?_
        refine at_then ?_
        refine ct_seq ?_
        first | refine ct_dec rfl (fun h2 => ?_) (fun h2 => ?_) | refine ct_ndec rfl (fun h2 => ?_) (fun h2 => ?_) | refine ct_eq rfl (fun h2 => ?_) (fun h2 => ?_) | refine ct_ne rfl (fun h2 => ?_) (fun h2 => ?_) | refine ct_not rfl (fun h2 => ?_) (fun h2 => ?_) | refine ct_cond rfl (fun h2 => ?_) (fun h2 => ?_)
        ·
          have hk2 : k < xs.length := by omega
          obtain ⟨b, o, rfl, hel⟩ := hsxs.elem encRepair_len (by omega) hk2
          have hx := getLt hk2
          have hrb := repairB_at hok hx
          generalize xs[k] = r at *
          have hcx := hel k r hx
          obtain ⟨c0, c1, c2, c3, c4, _⟩ := hel k r hx
          obtain ⟨ba, rfl⟩ := slSomeG hsq2 (by omega)
          have hmg := mixL_get (a := fa) (b := tb) hx
          have hml := mixL_len (a := fa) (b := tb) hk
          have hsvb := savL_bd (a := fa) (b := tb) hok htb k
          have hcr := costR_bd hw hrb
          have hqb := repW_good (a := fa) hrb htb
          have hcq := costR_bd hw hqb
          refine ct_skip ?_
          refine at_then ?_
          refine ct_seq ?_
          refine ct_block ?_
          refine ct_seq ?_
          refine ct_reg ?_
          refine rl_val gw_none (ov_move rfl) rfl ?_
          first | refine rl_val gw_none (ov_ix Try.underlying37 sz53 rfl rfl _ rfl (by omega)) rfl ?_ | refine rl_val gw_none (ov_ix Try.underlying37 sz53 rfl rfl (k) (by omega) (by omega)) rfl ?_
          first | refine rl_val gw_none (ov_loadaw ag53 rfl rfl (by assumption)) rfl ?_ | refine rl_val gw_none (ov_loadall 0 ag53 rfl rfl rfl) rfl ?_ | refine rl_val gw_none (ov_loadall 1 ag53 rfl rfl rfl) rfl ?_ | refine rl_val gw_none (ov_loadall 2 ag53 rfl rfl rfl) rfl ?_ | refine rl_val gw_none (ov_loadall 3 ag53 rfl rfl rfl) rfl ?_
          refine rl_alloc ze53 rfl (fun N2 => ?_)
          refine rl_val gw_none (ov_assign rfl) rfl ?_
          refine rl_store [] sz53 rfl rfl rfl rfl rfl (Nat.le_of_ble_eq_true rfl) ?_
          refine rl_nil ?_
          refine at_then ?_
          refine ct_seq ?_
          refine ct_reg ?_
          refine rl_val gw_none (ov_field fo53_1 rfl) rfl ?_
          first | refine rl_val gw_none (ov_load 0 sc3 rfl rfl rfl) rfl ?_ | refine rl_val gw_none (ov_load 0 sc3 rfl rfl (by assumption)) rfl ?_
          refine rl_val gw_none (ov_move rfl) rfl ?_
          refine rl_val gw_none (ov_eql rfl rfl) rfl ?_
          refine rl_nil ?_
          refine at_then ?_
          first | refine ct_dec rfl (fun h3 => ?_) (fun h3 => ?_) | refine ct_ndec rfl (fun h3 => ?_) (fun h3 => ?_) | refine ct_eq rfl (fun h3 => ?_) (fun h3 => ?_) | refine ct_ne rfl (fun h3 => ?_) (fun h3 => ?_) | refine ct_not rfl (fun h3 => ?_) (fun h3 => ?_) | refine ct_cond rfl (fun h3 => ?_) (fun h3 => ?_)
          ·
            have hrw := repW_yes (b := tb) h3
            have hgt := mixL_got (a := fa) (b := tb) hx
            have hms := mixL_step (a := fa) (b := tb) hx
            refine ct_seq ?_
            refine ct_reg ?_
            refine rl_val gw_none (ov_move rfl) rfl ?_
            refine rl_val gw_none (ov_move rfl) rfl ?_
            refine rl_val gw_none (ov_move rfl) rfl ?_
            first | refine rl_val gw_none (ov_ix Try.underlying37 sz53 rfl rfl _ rfl (by omega)) rfl ?_ | refine rl_val gw_none (ov_ix Try.underlying37 sz53 rfl rfl (k) (by omega) (by omega)) rfl ?_
            refine rl_val gw_none (ov_field fo53_1 rfl) rfl ?_
            refine rl_store [_] sz3 rfl rfl rfl rfl rfl (by rw [List.length_append, flat_length encRepair_len]; omega) ?_
            refine rl_mem (fun _ hq => hq.cong (congrArg (fun x => _ :: (_, _, x) :: _) ((flatPutF (x' := repW fa tb r) encRepair_len _ hmg (by decide) (by rw [hrw]; rfl)).trans (congrArg (fun x => flat encRepair x ++ padq1) hms)))) ?_
            refine rl_nil ?_
            refine at_then ?_
            refine ct_dr 13 (by kernel_rfl) (by kernel_rfl) ?_
            refine ql_val gw_none (ov_move rfl) rfl ?_
            refine ql_val gw_none (ov_move rfl) rfl ?_
            first | refine ql_val gw_none (ov_loadall 0 ag53 rfl rfl rfl) rfl ?_ | refine ql_val gw_none (ov_loadp 0 ag53 rfl rfl (vs := [_, _, _, _, _]) rfl rfl) rfl ?_ | refine ql_val gw_none (ov_loada 0 ag53 rfl rfl rfl (by assumption)) rfl ?_
            refine ql_callv gw_none goes86 rfl (fun w1 hp => costOf_c ws r _ _ (hsws.ext hp.ext0) hw hrb) rfl ?_
            refine ql_val gw_none (ov_move rfl) rfl ?_
            refine ql_val gw_none (ov_move rfl) rfl ?_
            refine ql_val gw_none (ov_move rfl) rfl ?_
            first | refine ql_val gw_none (ov_ix Try.underlying37 sz53 rfl rfl _ rfl (by omega)) rfl ?_ | refine ql_val gw_none (ov_ix Try.underlying37 sz53 rfl rfl (k) (by omega) (by omega)) rfl ?_
            refine ql_val gw_none (ov_loada 1 ag53 rfl rfl (vs := encRepair (repW fa tb r)) rfl (flatCells encRepair_len hgt _)) rfl ?_
            refine ql_callv gw_none goes86 rfl (fun w1 hp => costOf_c ws (repW fa tb r) _ _ (hsws.ext hp.ext0) hw hqb) rfl ?_
            refine ql_val gw_none (ov_sub rfl rfl (by omega)) rfl ?_
            refine ql_val gw_none (ov_add rfl rfl (by omega)) rfl ?_
            refine ql_val gw_none (ov_assign rfl) rfl ?_
            refine ql_nil ?_
            refine rl_nil ?_
            refine at_block ?_
            refine at_then ?_
            refine ct_reg ?_
            refine rl_val gw_none (ov_add rfl rfl (by omega)) rfl ?_
            refine rl_val gw_none (ov_move rfl) rfl ?_
            refine rl_nil ?_
            have hss := savL_succ (ws := ws) (a := fa) (b := tb) hx
            have hmx : mixL fa tb xs (k + 1) = mixL fa tb xs (k + 1) := rfl
            exact at_backR (k + 1) (by first | exact True.intro | omega | (dsimp only; omega) | (dsimp only at *; omega)) (by first | exact True.intro | omega | (dsimp only; omega) | (dsimp only at *; omega)) (by (repeat' (first | exact Sub.nil | refine Sub.cons ?_ ?_)); all_goals (first | rfl | exact lkInt rfl (by omega))) (Sub.cons rfl (Sub.cons rfl (Sub.cons rfl (Sub.cons rfl (Sub.cons rfl (Sub.cons rfl (Sub.cons rfl (Sub.cons rfl (Sub.cons rfl Sub.nil))))))))) (fun _ hp => ((Hp.sub (Hp.pull hp 1 rfl) (List.sublist_append_left [_] _))).cong (by rw [hmx]; try rfl))
          ·
            refine ct_skip ?_
            refine at_block ?_
            refine at_then ?_
            refine ct_reg ?_
            refine rl_val gw_none (ov_add rfl rfl (by omega)) rfl ?_
            refine rl_val gw_none (ov_move rfl) rfl ?_
            refine rl_nil ?_
            have hss := savL_same (ws := ws) (b := tb) hx h3
            have hmx := mixL_same (b := tb) hx h3
            exact at_backR (k + 1) (by first | exact True.intro | omega | (dsimp only; omega) | (dsimp only at *; omega)) (by first | exact True.intro | omega | (dsimp only; omega) | (dsimp only at *; omega)) (by (repeat' (first | exact Sub.nil | refine Sub.cons ?_ ?_)); all_goals (first | rfl | exact lkInt rfl (by omega))) (Sub.cons rfl (Sub.cons rfl (Sub.cons rfl (Sub.cons rfl (Sub.cons rfl (Sub.cons rfl (Sub.cons rfl (Sub.cons rfl (Sub.cons rfl Sub.nil))))))))) (fun _ hp => ((Hp.sub (Hp.pull hp 1 rfl) (List.sublist_append_left [_] _))).cong (by rw [hmx]; try rfl))
        ·
          have hke : k = xs.length := by omega
          subst hke
          refine ct_exit ?_
          refine at_then_exit ?_
          refine at_then_exit ?_
          refine at_block_hit ?_
          refine at_then ?_
          refine ct_seq ?_
          refine ct_reg ?_
          refine rl_val gw_none (ov_move rfl) rfl ?_
          refine rl_val gw_none (ov_move rfl) rfl ?_
          refine rl_val gw_none (ov_assign rfl) rfl ?_
          refine rl_val gw_none (ov_assign rfl) rfl ?_
          refine rl_val gw_none (ov_assign rfl) rfl ?_
          refine rl_nil ?_
          refine at_then ?_
          refine ct_ret ?_
          refine at_ret3 Try.results50 (ro_tmp rfl) (ro_tmp rfl) (ro_tmp rfl) (fun w1 hp => ?_)
          first | (rw [(rw_yes hB).1, (rw_yes hB).2, hB, ← mixL_end]; have hlz : (mixL fa tb xs xs.length).length = (([] : List Repair) ++ xs).length := mixL_len (Nat.le_refl _); rw [hlz]; exact RetSl.own 0 hp rfl (by rw [← hlz]; exact slSameG encRepair_len hsq2 (mixL_len (Nat.le_refl _)))) | (have hb : rwB ws xs fa tb = false := rwB_bad (by first | (left; simpa using g1) | (right; left; simpa using g2) | (right; right; simpa using h1)); rw [(rw_no hb).1, (rw_no hb).2, hb]; first | exact RetSl.nil hp.ext0 | exact RetSl.lit 0 hp rfl rfl (by decide))

theorem sReplaceWood_c (ws : List Wood) (xs : List Repair) (fa : Int) (tb : Int) (vws : Value) (vxs : Value) (w : World) (hGws : ∀ y ∈ ws, GWood y) (hsws : SR w 3 vws ws.length (flat encWood ws)) (hGxs : ∀ y ∈ xs, GRepair y) (hsxs : SR w 5 vxs xs.length (flat encRepair xs)) (zfa : In64 fa) (ztb : In64 tb) : Calls Try.prog 49 ([vws, vxs, .int .i64 fa, .int .i64 tb]).toArray w (fun e w' => RetSl 53 5 (flat encRepair (rwL ws xs fa tb)) ((rwL ws xs fa tb).length) (fun s => .tuple #[s, .int .i64 (rwS ws xs fa tb), .bool (rwB ws xs fa tb)]) w e w') := by
  obtain ⟨aws, capws, rfl, hcapws, hmaxws⟩ := hsws.slice
  have hlenws := hsws.len_le
  obtain ⟨axs, capxs, rfl, hcapxs, hmaxxs⟩ := hsxs.slice
  have hlenxs := hsxs.len_le
  refine calls_ct Try.func49 Try.ntmps49 rfl rfl ?_
  refine ct_seq ?_
  refine ct_reg ?_
  refine rl_val gw_none (ov_assign rfl) rfl ?_
  refine rl_val gw_none (ov_assign rfl) rfl ?_
  refine rl_val gw_none (ov_assign rfl) rfl ?_
  refine rl_nil ?_
  refine at_then ?_
  refine ct_seq ?_
  refine ct_reg ?_
  refine rl_val gw_none (ov_move rfl) rfl ?_
  refine rl_val gw_none (ov_len Try.underlying25 rfl) rfl ?_
  refine rl_val gw_none (ov_sub rfl rfl (by omega)) rfl ?_
  refine rl_val gw_none (ov_assign rfl) rfl ?_
  refine rl_nil ?_
  refine at_then ?_
  refine ct_seq ?_
  refine ct_seq ?_
  refine ct_reg ?_
  refine rl_val gw_none (ov_move rfl) rfl ?_
  refine rl_val gw_none (ov_move rfl) rfl ?_
  refine rl_callv gw_none goes65 rfl (fun w1 hp => l23Good_c ws xs _ _ _ hGws (hsws.ext hp.ext0) hGxs (hsxs.ext hp.ext0)) rfl ?_
  refine rl_val gw_none (ov_not rfl) rfl ?_
  refine rl_val gw_none (ov_move rfl) rfl ?_
  refine rl_split (t := 23) rfl (fun g1 => ?_) (fun g1 => ?_)
  ·
    have g1' := g1
    try simp only [Bool.not_eq_true', Bool.not_eq_false', Bool.not_not, decide_eq_true_eq, decide_eq_false_iff_not, beq_iff_eq, beq_eq_false_iff_ne, bne_iff_ne, bne_eq_false_iff_eq, Bool.and_eq_true, Bool.or_eq_true, Bool.and_eq_false_iff, Bool.or_eq_false_iff, inB] at g1'
    refine rl_skip (gw_not rfl rfl g1) rfl ?_
    refine rl_skip (gw_not rfl rfl g1) rfl ?_
    refine rl_skip (gw_not rfl rfl g1) rfl ?_
    refine rl_skip (gw_not rfl rfl g1) rfl ?_
    refine rl_val gw_none (ov_pick_t rfl g1 rfl) rfl ?_
    refine rl_val gw_none (ov_move rfl) rfl ?_
    refine rl_skip (gw_not rfl rfl rfl) rfl ?_
    refine rl_skip (gw_not rfl rfl rfl) rfl ?_
    refine rl_skip (gw_not rfl rfl rfl) rfl ?_
    refine rl_skip (gw_not rfl rfl rfl) rfl ?_
    refine rl_val gw_none (ov_pick_t rfl rfl rfl) rfl ?_
    refine rl_nil ?_
    refine at_then ?_
    refine ct_true rfl rfl ?_
    refine ct_seq ?_
    refine ct_reg ?_
    refine rl_bslice Try.underlying37 ze53 sz53 rfl rfl rfl rfl rfl rfl (fun N1 => ?_)
    refine rl_val gw_none (ov_assign rfl) rfl ?_
    refine rl_val gw_none (ov_assign rfl) rfl ?_
    refine rl_val gw_none (ov_assign rfl) rfl ?_
    refine rl_nil ?_
    refine at_then ?_
    refine ct_ret ?_
    refine at_then_ret ?_
    refine at_ret3 Try.results49 (ro_tmp rfl) (ro_tmp rfl) (ro_tmp rfl) (fun w1 hp => ?_)
    first | (rw [(rw_yes hB).1, (rw_yes hB).2, hB]; exact RetSl.own 999 hp rfl hsl) | (have hb : rwB ws xs fa tb = false := rwB_bad (by first | (left; simpa using g1) | (right; left; simpa using g2) | (right; right; simpa using h1)); rw [(rw_no hb).1, (rw_no hb).2, hb]; first | exact RetSl.nil hp.ext0 | exact RetSl.lit 0 hp rfl rfl (by decide))
  ·
    have g1' := g1
    try simp only [Bool.not_eq_true', Bool.not_eq_false', Bool.not_not, decide_eq_true_eq, decide_eq_false_iff_not, beq_iff_eq, beq_eq_false_iff_ne, bne_iff_ne, bne_eq_false_iff_eq, Bool.and_eq_true, Bool.or_eq_true, Bool.and_eq_false_iff, Bool.or_eq_false_iff, inB] at g1'
    refine rl_val (gw_some rfl rfl g1) (ov_move rfl) rfl ?_
    refine rl_val (gw_some rfl rfl g1) (ov_move rfl) rfl ?_
    refine rl_callv (gw_some rfl rfl g1) goes64 rfl (fun w1 hp => l1In_c _ _ _ _) rfl ?_
    refine rl_val (gw_some rfl rfl g1) (ov_not rfl) rfl ?_
    refine rl_val gw_none (ov_pick_f rfl g1 rfl) rfl ?_
    refine rl_val gw_none (ov_move rfl) rfl ?_
    refine rl_split (t := 29) rfl (fun g2 => ?_) (fun g2 => ?_)
    ·
      have g2' := g2
      try simp only [Bool.not_eq_true', Bool.not_eq_false', Bool.not_not, decide_eq_true_eq, decide_eq_false_iff_not, beq_iff_eq, beq_eq_false_iff_ne, bne_iff_ne, bne_eq_false_iff_eq, Bool.and_eq_true, Bool.or_eq_true, Bool.and_eq_false_iff, Bool.or_eq_false_iff, inB] at g2'
      refine rl_skip (gw_not rfl rfl g2) rfl ?_
      refine rl_skip (gw_not rfl rfl g2) rfl ?_
      refine rl_skip (gw_not rfl rfl g2) rfl ?_
      refine rl_skip (gw_not rfl rfl g2) rfl ?_
      refine rl_val gw_none (ov_pick_t rfl g2 rfl) rfl ?_
      refine rl_nil ?_
      refine at_then ?_
      refine ct_true rfl rfl ?_
      refine ct_seq ?_
      refine ct_reg ?_
      refine rl_bslice Try.underlying37 ze53 sz53 rfl rfl rfl rfl rfl rfl (fun N2 => ?_)
      refine rl_val gw_none (ov_assign rfl) rfl ?_
      refine rl_val gw_none (ov_assign rfl) rfl ?_
      refine rl_val gw_none (ov_assign rfl) rfl ?_
      refine rl_nil ?_
      refine at_then ?_
      refine ct_ret ?_
      refine at_then_ret ?_
      refine at_ret3 Try.results49 (ro_tmp rfl) (ro_tmp rfl) (ro_tmp rfl) (fun w1 hp => ?_)
      first | (rw [(rw_yes hB).1, (rw_yes hB).2, hB]; exact RetSl.own 999 hp rfl hsl) | (have hb : rwB ws xs fa tb = false := rwB_bad (by first | (left; simpa using g1) | (right; left; simpa using g2) | (right; right; simpa using h1)); rw [(rw_no hb).1, (rw_no hb).2, hb]; first | exact RetSl.nil hp.ext0 | exact RetSl.lit 0 hp rfl rfl (by decide))
    ·
      have g2' := g2
      try simp only [Bool.not_eq_true', Bool.not_eq_false', Bool.not_not, decide_eq_true_eq, decide_eq_false_iff_not, beq_iff_eq, beq_eq_false_iff_ne, bne_iff_ne, bne_eq_false_iff_eq, Bool.and_eq_true, Bool.or_eq_true, Bool.and_eq_false_iff, Bool.or_eq_false_iff, inB] at g2'
      refine rl_val (gw_some rfl rfl g2) (ov_move rfl) rfl ?_
      refine rl_val (gw_some rfl rfl g2) (ov_move rfl) rfl ?_
      refine rl_callv (gw_some rfl rfl g2) goes64 rfl (fun w1 hp => l1In_c _ _ _ _) rfl ?_
      refine rl_val (gw_some rfl rfl g2) (ov_not rfl) rfl ?_
      refine rl_val gw_none (ov_pick_f rfl g2 rfl) rfl ?_
      refine rl_nil ?_
      refine at_then ?_
      first | refine ct_dec rfl (fun h1 => ?_) (fun h1 => ?_) | refine ct_ndec rfl (fun h1 => ?_) (fun h1 => ?_) | refine ct_eq rfl (fun h1 => ?_) (fun h1 => ?_) | refine ct_ne rfl (fun h1 => ?_) (fun h1 => ?_) | refine ct_not rfl (fun h1 => ?_) (fun h1 => ?_) | refine ct_cond rfl (fun h1 => ?_) (fun h1 => ?_)
      ·
        refine ct_seq ?_
        refine ct_reg ?_
        refine rl_bslice Try.underlying37 ze53 sz53 rfl rfl rfl rfl rfl rfl (fun N3 => ?_)
        refine rl_val gw_none (ov_assign rfl) rfl ?_
        refine rl_val gw_none (ov_assign rfl) rfl ?_
        refine rl_val gw_none (ov_assign rfl) rfl ?_
        refine rl_nil ?_
        refine at_then ?_
        refine ct_ret ?_
        refine at_then_ret ?_
        refine at_ret3 Try.results49 (ro_tmp rfl) (ro_tmp rfl) (ro_tmp rfl) (fun w1 hp => ?_)
        first | (rw [(rw_yes hB).1, (rw_yes hB).2, hB]; exact RetSl.own 999 hp rfl hsl) | (have hb : rwB ws xs fa tb = false := rwB_bad (by first | (left; simpa using g1) | (right; left; simpa using g2) | (right; right; simpa using h1)); rw [(rw_no hb).1, (rw_no hb).2, hb]; first | exact RetSl.nil hp.ext0 | exact RetSl.lit 0 hp rfl rfl (by decide))
      ·
        have hok : repairsB ws xs = true := by simpa using g1
        have hw := (repairs_woods hok).1
        have hx10 := (repairs_woods hok).2
        have hol := ordL_len ws xs
        have hfb : inB fa 0 ((ws.length : Int) - 1) = true := by simpa using g2
        have htb : inB tb 0 ((ws.length : Int) - 1) = true := by simpa using h1
        have hB : rwB ws xs fa tb = true := by unfold rwB; rw [hok, hfb, htb]; rfl
        have htr := htb
        simp only [inB, Bool.and_eq_true, decide_eq_true_eq] at htr
        refine ct_skip ?_
        refine at_then ?_
        refine ct_seq ?_
        refine ct_reg ?_
        refine rl_bslice Try.underlying37 ze53 sz53 rfl rfl rfl rfl rfl rfl (fun N4 => ?_)
        refine rl_val gw_none (ov_assign rfl) rfl ?_
        refine rl_val gw_none (ov_assign rfl) rfl ?_
        refine rl_nil ?_
        refine at_then ?_
        refine ct_seq ?_
        refine ct_seq ?_
        refine ct_reg ?_
        refine rl_val gw_none (ov_assign rfl) rfl ?_
        refine rl_nil ?_
        refine at_then ?_
        refine ct_block ?_
        refine ct_loopR (ι := Nat × Option Nat × Nat × List Value) (fun p0 => [(12, sv p0.2.1 (repL fa tb xs p0.1).length p0.2.2.1), (13, .int .i64 (savL ws fa tb xs p0.1)), (14, .int .i64 p0.1)]) [(0, _), (1, _), (2, _), (3, _), (8, _), (9, _), (10, _)] (fun p0 => [(p0.2.1, 53, flat encRepair (repL fa tb xs p0.1) ++ p0.2.2.2)]) (fun p0 => p0.1 ≤ xs.length ∧ Sl 5 p0.2.1 (repL fa tb xs p0.1).length p0.2.2.1 (flat encRepair (repL fa tb xs p0.1)) p0.2.2.2) (fun p0 => xs.length - p0.1) ((0, some N4, 0, [])) (Sub.cons rfl (Sub.cons rfl (Sub.cons rfl (Sub.cons rfl (Sub.cons rfl (Sub.cons rfl (Sub.cons rfl Sub.nil))))))) (fun _ hp => (Hp.sub (Hp.pull hp 0 rfl) (List.sublist_append_left [_] _))) (by (repeat' (first | exact Sub.nil | refine Sub.cons ?_ ?_)); all_goals (first | rfl | exact lkInt rfl (by omega))) ⟨Nat.zero_le _, Sl.lit rfl (Nat.zero_le _)⟩ (fun p0 hp0 => ?_)
        obtain ⟨k, bo, cap, pad⟩ := p0
        obtain ⟨hk, hsl⟩ := hp0
        dsimp only at hk hsl
        try dsimp only
        have hrl := repL_len (a := fa) (b := tb) hk
        refine ct_seq ?_
        refine ct_seq ?_
        refine ct_reg ?_
        refine rl_val gw_none (ov_move rfl) rfl ?_
        refine rl_val gw_none (ov_move rfl) rfl ?_
        refine rl_val gw_none (ov_len Try.underlying37 rfl) rfl ?_
        refine rl_val gw_none (ov_lss rfl rfl) rfl ?_
        refine rl_nil ?_
        refine at_then ?_
        first | refine ct_dec rfl (fun h2 => ?_) (fun h2 => ?_) | refine ct_ndec rfl (fun h2 => ?_) (fun h2 => ?_) | refine ct_eq rfl (fun h2 => ?_) (fun h2 => ?_) | refine ct_ne rfl (fun h2 => ?_) (fun h2 => ?_) | refine ct_not rfl (fun h2 => ?_) (fun h2 => ?_) | refine ct_cond rfl (fun h2 => ?_) (fun h2 => ?_)
        ·
          have hk2 : k < xs.length := by omega
          obtain ⟨b, o, rfl, hel⟩ := hsxs.elem encRepair_len (by omega) hk2
          have hx := getLt hk2
          have hrb := repairB_at hok hx
          generalize xs[k] = r at *
          have hcx := hel k r hx
          obtain ⟨c0, c1, c2, c3, c4, _⟩ := hel k r hx
          have hsvb := savL_bd (a := fa) (b := tb) hok htb k
          have hcr := costR_bd hw hrb
          have hqb := repW_good (a := fa) hrb htb
          have hcq := costR_bd hw hqb
          refine ct_skip ?_
          refine at_then ?_
          refine ct_seq ?_
          refine ct_block ?_
          refine ct_seq ?_
          refine ct_reg ?_
          refine rl_val gw_none (ov_move rfl) rfl ?_
          refine rl_val gw_none (ov_move rfl) rfl ?_
          first | refine rl_val gw_none (ov_ix Try.underlying37 sz53 rfl rfl _ rfl (by omega)) rfl ?_ | refine rl_val gw_none (ov_ix Try.underlying37 sz53 rfl rfl (k) (by omega) (by omega)) rfl ?_
          first | refine rl_val gw_none (ov_loadaw ag53 rfl rfl (by assumption)) rfl ?_ | refine rl_val gw_none (ov_loadall 0 ag53 rfl rfl rfl) rfl ?_ | refine rl_val gw_none (ov_loadall 1 ag53 rfl rfl rfl) rfl ?_ | refine rl_val gw_none (ov_loadall 2 ag53 rfl rfl rfl) rfl ?_ | refine rl_val gw_none (ov_loadall 3 ag53 rfl rfl rfl) rfl ?_
          refine rl_alloc ze53 rfl (fun N5 => ?_)
          refine rl_store [] sz53 rfl rfl rfl rfl rfl (Nat.le_of_ble_eq_true rfl) ?_
          refine rl_nil ?_
          refine at_then ?_
          refine ct_seq ?_
          refine ct_seq ?_
          refine ct_reg ?_
          refine rl_val gw_none (ov_field fo53_1 rfl) rfl ?_
          first | refine rl_val gw_none (ov_load 0 sc3 rfl rfl rfl) rfl ?_ | refine rl_val gw_none (ov_load 0 sc3 rfl rfl (by assumption)) rfl ?_
          refine rl_val gw_none (ov_move rfl) rfl ?_
          refine rl_val gw_none (ov_eql rfl rfl) rfl ?_
          refine rl_nil ?_
          refine at_then ?_
          first | refine ct_dec rfl (fun h3 => ?_) (fun h3 => ?_) | refine ct_ndec rfl (fun h3 => ?_) (fun h3 => ?_) | refine ct_eq rfl (fun h3 => ?_) (fun h3 => ?_) | refine ct_ne rfl (fun h3 => ?_) (fun h3 => ?_) | refine ct_not rfl (fun h3 => ?_) (fun h3 => ?_) | refine ct_cond rfl (fun h3 => ?_) (fun h3 => ?_)
          ·
            have hrw := repW_yes (b := tb) h3
            refine ct_reg ?_
            refine rl_val gw_none (ov_move rfl) rfl ?_
            refine rl_val gw_none (ov_field fo53_1 rfl) rfl ?_
            refine rl_store [] sz3 rfl rfl rfl rfl rfl (Nat.le_of_ble_eq_true rfl) ?_
            refine rl_nil ?_
            refine at_then ?_
            refine ct_seq ?_
            refine ct_dr 13 (by kernel_rfl) (by kernel_rfl) ?_
            refine ql_val gw_none (ov_move rfl) rfl ?_
            refine ql_val gw_none (ov_move rfl) rfl ?_
            refine ql_val gw_none (ov_move rfl) rfl ?_
            refine ql_val gw_none (ov_move rfl) rfl ?_
            first | refine ql_val gw_none (ov_ix Try.underlying37 sz53 rfl rfl _ rfl (by omega)) rfl ?_ | refine ql_val gw_none (ov_ix Try.underlying37 sz53 rfl rfl (k) (by omega) (by omega)) rfl ?_
            first | refine ql_val gw_none (ov_loadaw ag53 rfl rfl (by assumption)) rfl ?_ | refine ql_val gw_none (ov_loadall 0 ag53 rfl rfl rfl) rfl ?_ | refine ql_val gw_none (ov_loadall 1 ag53 rfl rfl rfl) rfl ?_ | refine ql_val gw_none (ov_loadall 2 ag53 rfl rfl rfl) rfl ?_ | refine ql_val gw_none (ov_loadall 3 ag53 rfl rfl rfl) rfl ?_
            refine ql_callv gw_none goes85 rfl (fun w1 hp => l23Cost_c ws r _ _ (hsws.ext hp.ext0) hw hrb) rfl ?_
            refine ql_val gw_none (ov_add rfl rfl (by omega)) rfl ?_
            refine ql_val gw_none (ov_move rfl) rfl ?_
            first | refine ql_val gw_none (ov_loadall 0 ag53 rfl rfl (by rw [hrw]; rfl)) rfl ?_ | refine ql_val gw_none (ov_loadp 0 ag53 rfl rfl (vs := encRepair (repW fa tb r)) rfl (by rw [hrw]; rfl)) rfl ?_
            refine ql_callv gw_none goes85 rfl (fun w1 hp => l23Cost_c ws (repW fa tb r) _ _ (hsws.ext hp.ext0) hw hqb) rfl ?_
            refine ql_val gw_none (ov_sub rfl rfl (by omega)) rfl ?_
            refine ql_val gw_none (ov_assign rfl) rfl ?_
            refine ql_nil ?_
            refine rl_nil ?_
            refine at_then ?_
            refine ct_reg ?_
            refine rl_val gw_none (ov_move rfl) rfl ?_
            refine rl_val gw_none (ov_loadp 0 ag53 rfl rfl (vs := encRepair (repW fa tb r)) rfl (by rw [hrw]; rfl)) rfl ?_
            refine rl_bslice Try.underlying37 ze53 sz53 rfl rfl rfl rfl rfl rfl (fun N6 => ?_)
            refine rl_appT (flat encRepair) ((flat_append _)) [_, _] (acc := (repL fa tb xs k)) Try.underlying37 ze53 sz53 rfl rfl by53 rfl rfl rfl hsl ([repW fa tb r]) rfl (fun w1 hp => hp.sr1 0 rfl rfl (by decide)) (flat_one encRepair_one _) (by unfold maxLen; omega) (by omega) rfl (fun boq1 capq1 padq1 hsq1 => ?_)
            refine rl_val gw_none (ov_assign rfl) rfl ?_
            refine rl_nil ?_
            refine at_block ?_
            refine at_then ?_
            refine ct_reg ?_
            refine rl_val gw_none (ov_move rfl) rfl ?_
            refine rl_val gw_none (ov_add rfl rfl (by omega)) rfl ?_
            refine rl_val gw_none (ov_assign rfl) rfl ?_
            refine rl_nil ?_
            have hss := savL_succ (ws := ws) (a := fa) (b := tb) hx
            have hts := repL_snoc (a := fa) (b := tb) hx
            exact at_backR (k + 1, boq1, capq1, padq1) ⟨hk2, by dsimp only; rw [hts]; exact hsq1⟩ (by dsimp only; omega) (by dsimp only; rw [hts]; (repeat' (first | exact Sub.nil | refine Sub.cons ?_ ?_)); all_goals (first | rfl | exact lkInt rfl (by omega))) (Sub.cons rfl (Sub.cons rfl (Sub.cons rfl (Sub.cons rfl (Sub.cons rfl (Sub.cons rfl (Sub.cons rfl Sub.nil))))))) (fun _ hp => ((Hp.sub (Hp.pull hp 2 rfl) (List.sublist_append_left [_] _))).cong (by dsimp only; rw [hts]; try rfl))
          ·
            have hrw := repW_no (b := tb) h3
            refine ct_skip ?_
            refine at_then ?_
            refine ct_seq ?_
            refine ct_dr 13 (by kernel_rfl) (by kernel_rfl) ?_
            refine ql_val gw_none (ov_move rfl) rfl ?_
            refine ql_val gw_none (ov_move rfl) rfl ?_
            refine ql_val gw_none (ov_move rfl) rfl ?_
            refine ql_val gw_none (ov_move rfl) rfl ?_
            first | refine ql_val gw_none (ov_ix Try.underlying37 sz53 rfl rfl _ rfl (by omega)) rfl ?_ | refine ql_val gw_none (ov_ix Try.underlying37 sz53 rfl rfl (k) (by omega) (by omega)) rfl ?_
            first | refine ql_val gw_none (ov_loadaw ag53 rfl rfl (by assumption)) rfl ?_ | refine ql_val gw_none (ov_loadall 0 ag53 rfl rfl rfl) rfl ?_ | refine ql_val gw_none (ov_loadall 1 ag53 rfl rfl rfl) rfl ?_ | refine ql_val gw_none (ov_loadall 2 ag53 rfl rfl rfl) rfl ?_ | refine ql_val gw_none (ov_loadall 3 ag53 rfl rfl rfl) rfl ?_
            refine ql_callv gw_none goes85 rfl (fun w1 hp => l23Cost_c ws r _ _ (hsws.ext hp.ext0) hw hrb) rfl ?_
            refine ql_val gw_none (ov_add rfl rfl (by omega)) rfl ?_
            refine ql_val gw_none (ov_move rfl) rfl ?_
            first | refine ql_val gw_none (ov_loadall 0 ag53 rfl rfl (by rw [hrw]; rfl)) rfl ?_ | refine ql_val gw_none (ov_loadp 0 ag53 rfl rfl (vs := encRepair (repW fa tb r)) rfl (by rw [hrw]; rfl)) rfl ?_
            refine ql_callv gw_none goes85 rfl (fun w1 hp => l23Cost_c ws (repW fa tb r) _ _ (hsws.ext hp.ext0) hw hqb) rfl ?_
            refine ql_val gw_none (ov_sub rfl rfl (by omega)) rfl ?_
            refine ql_val gw_none (ov_assign rfl) rfl ?_
            refine ql_nil ?_
            refine rl_nil ?_
            refine at_then ?_
            refine ct_reg ?_
            refine rl_val gw_none (ov_move rfl) rfl ?_
            refine rl_val gw_none (ov_loadp 0 ag53 rfl rfl (vs := encRepair (repW fa tb r)) rfl (by rw [hrw]; rfl)) rfl ?_
            refine rl_bslice Try.underlying37 ze53 sz53 rfl rfl rfl rfl rfl rfl (fun N7 => ?_)
            refine rl_appT (flat encRepair) ((flat_append _)) [_, _] (acc := (repL fa tb xs k)) Try.underlying37 ze53 sz53 rfl rfl by53 rfl rfl rfl hsl ([repW fa tb r]) rfl (fun w1 hp => hp.sr1 0 rfl rfl (by decide)) (flat_one encRepair_one _) (by unfold maxLen; omega) (by omega) rfl (fun boq2 capq2 padq2 hsq2 => ?_)
            refine rl_val gw_none (ov_assign rfl) rfl ?_
            refine rl_nil ?_
            refine at_block ?_
            refine at_then ?_
            refine ct_reg ?_
            refine rl_val gw_none (ov_move rfl) rfl ?_
            refine rl_val gw_none (ov_add rfl rfl (by omega)) rfl ?_
            refine rl_val gw_none (ov_assign rfl) rfl ?_
            refine rl_nil ?_
            have hss := savL_succ (ws := ws) (a := fa) (b := tb) hx
            have hts := repL_snoc (a := fa) (b := tb) hx
            exact at_backR (k + 1, boq2, capq2, padq2) ⟨hk2, by dsimp only; rw [hts]; exact hsq2⟩ (by dsimp only; omega) (by dsimp only; rw [hts]; (repeat' (first | exact Sub.nil | refine Sub.cons ?_ ?_)); all_goals (first | rfl | exact lkInt rfl (by omega))) (Sub.cons rfl (Sub.cons rfl (Sub.cons rfl (Sub.cons rfl (Sub.cons rfl (Sub.cons rfl (Sub.cons rfl Sub.nil))))))) (fun _ hp => ((Hp.sub (Hp.pull hp 2 rfl) (List.sublist_append_left [_] _))).cong (by dsimp only; rw [hts]; try rfl))
        ·
          have hke : k = xs.length := by omega
          subst hke
          refine ct_exit ?_
          refine at_then_exit ?_
          refine at_then_exit ?_
          refine at_block_hit ?_
          refine at_then ?_
          refine ct_seq ?_
          refine ct_reg ?_
          refine rl_val gw_none (ov_move rfl) rfl ?_
          refine rl_val gw_none (ov_move rfl) rfl ?_
          refine rl_val gw_none (ov_assign rfl) rfl ?_
          refine rl_val gw_none (ov_assign rfl) rfl ?_
          refine rl_val gw_none (ov_assign rfl) rfl ?_
          refine rl_nil ?_
          refine at_then ?_
          refine ct_ret ?_
          refine at_ret3 Try.results49 (ro_tmp rfl) (ro_tmp rfl) (ro_tmp rfl) (fun w1 hp => ?_)
          first | (rw [(rw_yes hB).1, (rw_yes hB).2, hB]; exact RetSl.own 0 hp rfl hsl) | (have hb : rwB ws xs fa tb = false := rwB_bad (by first | (left; simpa using g1) | (right; left; simpa using g2) | (right; right; simpa using h1)); rw [(rw_no hb).1, (rw_no hb).2, hb]; first | exact RetSl.nil hp.ext0 | exact RetSl.lit 0 hp rfl rfl (by decide))
end Go.Proofs.Ytaajkamfeaafpaa
