import Derived.Test.YtfelindekikaeaaTc
import Derived.Test.YtfelindekikaeaaTf
import Derived.Test.YtfelindekikaeaaTj
import Derived.KernelRfl
set_option linter.unusedVariables false
set_option linter.unusedSimpArgs false
namespace Go.Proofs.Ytfelindekikaeaa
open Go Go.RowKit K
theorem iLandsByAge_c (xs : List Exhibit) (vxs : Value) (w : World) (hGxs : ∀ y ∈ xs, GExhibit y) (hsxs : SR w 7 vxs xs.length (flat encExhibit xs)) : Calls Try.prog 17 ([vxs]).toArray w (fun e w' => RetSl 9 1 (flat encS (landsR xs)) ((landsR xs).length) (fun s => .tuple #[s, .bool (exhsB xs)]) w e w') := by
  obtain ⟨axs, capxs, rfl, hcapxs, hmaxxs⟩ := hsxs.slice
  have hlenxs := hsxs.len_le
  refine calls_ct Try.func17 Try.ntmps17 rfl rfl ?_
  refine ct_seq ?_
  refine ct_reg ?_
  refine rl_val gw_none (ov_assign rfl) rfl ?_
  refine rl_val gw_none (ov_assign rfl) rfl ?_
  refine rl_nil ?_
  refine at_then ?_
  refine ct_seq ?_
  refine ct_seq ?_
  refine ct_reg ?_
  refine rl_val gw_none (ov_move rfl) rfl ?_
  refine rl_callv gw_none goes43 rfl (fun w1 hp => iAreExhibits_c xs _ _ hGxs (hsxs.ext hp.ext0)) rfl ?_
  refine rl_val gw_none (ov_not rfl) rfl ?_
  refine rl_nil ?_
  refine at_then ?_
  first | refine ct_dec rfl (fun h1 => ?_) (fun h1 => ?_) | refine ct_ndec rfl (fun h1 => ?_) (fun h1 => ?_) | refine ct_eq rfl (fun h1 => ?_) (fun h1 => ?_) | refine ct_ne rfl (fun h1 => ?_) (fun h1 => ?_) | refine ct_not rfl (fun h1 => ?_) (fun h1 => ?_) | refine ct_cond rfl (fun h1 => ?_) (fun h1 => ?_)
  ·
    refine ct_seq ?_
    refine ct_reg ?_
    refine rl_val gw_none (ov_assign rfl) rfl ?_
    refine rl_val gw_none (ov_assign rfl) rfl ?_
    refine rl_nil ?_
    refine at_then ?_
    refine ct_ret ?_
    refine at_then_ret ?_
    refine at_ret2 Try.results17 (ro_tmp rfl) (ro_tmp rfl) (fun w1 hp => ?_)
    first | (rw [show landsR xs = (landF ((ageL xs).take (ageL xs).length)).1 by rw [landsR_yes hok, List.take_length], hok]; exact RetSl.own 999 hp rfl hsl) | (have hb : exhsB xs = false := (by simpa using h1); rw [landsR_no hb, hb]; first | exact RetSl.nil hp.ext0 | exact RetSl.lit 0 hp rfl rfl (by decide))
  ·
    have hok : exhsB xs = true := by simpa using h1
    have h10 := exhsB_len hok
    have hol : (ageL xs).length = xs.length := ordG_len xs
    refine ct_skip ?_
    refine at_then ?_
    refine ct_seq ?_
    refine ct_reg ?_
    refine rl_val gw_none (ov_assign rfl) rfl ?_
    refine rl_nil ?_
    refine at_then ?_
    refine ct_seq ?_
    refine ct_reg ?_
    refine rl_val gw_none (ov_assign rfl) rfl ?_
    refine rl_nil ?_
    refine at_then ?_
    refine ct_seq ?_
    refine ct_seq ?_
    refine ct_reg ?_
    refine rl_val gw_none (ov_move rfl) rfl ?_
    refine rl_callsl (ι := Nat × List Value) (fun i bo => sv bo (ageL xs).length i.1) (fun i => flat encExhibit (ageL xs) ++ i.2) (fun i bo => Sl 7 bo (ageL xs).length i.1 (flat encExhibit (ageL xs)) i.2) goes56 rfl (fun w1 hp => byAge_c xs _ _ hGxs (hsxs.ext hp.ext0) h10) rfl (fun iod bood hsod => ?_)
    refine rl_val gw_none (ov_len Try.underlying27 rfl) rfl ?_
    refine rl_val gw_none (ov_move rfl) rfl ?_
    refine rl_nil ?_
    refine at_then ?_
    refine ct_block ?_
    refine ct_loopR (ι := Nat × (Option Nat × Nat × List Value) × (Option Nat × Nat × List Value)) (fun p0 => [(4, sv p0.2.1.1 (landF ((ageL xs).take p0.1)).1.length p0.2.1.2.1), (5, sv p0.2.2.1 (landF ((ageL xs).take p0.1)).2.length p0.2.2.2.1), (18, .int .i64 p0.1)]) [(2, _), (3, _), (16, _), (17, _)] (fun p0 => [(p0.2.1.1, 9, flat encS (landF ((ageL xs).take p0.1)).1 ++ p0.2.1.2.2), (p0.2.2.1, 3, ints (landF ((ageL xs).take p0.1)).2 ++ p0.2.2.2.2), _]) (fun p0 => p0.1 ≤ (ageL xs).length ∧ Sl 1 p0.2.1.1 (landF ((ageL xs).take p0.1)).1.length p0.2.1.2.1 (flat encS (landF ((ageL xs).take p0.1)).1) p0.2.1.2.2 ∧ Sl 1 p0.2.2.1 (landF ((ageL xs).take p0.1)).2.length p0.2.2.2.1 (ints (landF ((ageL xs).take p0.1)).2) p0.2.2.2.2) (fun p0 => (ageL xs).length - p0.1) ((0, (none, 0, []), (none, 0, []))) (Sub.cons rfl (Sub.cons rfl (Sub.cons rfl (Sub.cons rfl Sub.nil)))) (fun _ hp => ((((Hp.sub (Hp.pull hp 0 rfl) (List.sublist_append_left [_] _))).nil 3).nil 9).cong rfl) (by (repeat' (first | exact Sub.nil | refine Sub.cons ?_ ?_)); all_goals (first | rfl | exact lkInt rfl (by omega))) ⟨Nat.zero_le _, Sl.nil0 _, Sl.nil0 _⟩ (fun p0 hp0 => ?_)
    obtain ⟨k, ⟨bo, cap, pad⟩, ⟨bo2, cap2, pad2⟩⟩ := p0
    obtain ⟨hk, hsl, hsm⟩ := hp0
    dsimp only at hk hsl hsm
    try dsimp only
    obtain ⟨hll, hlk⟩ := landF_len (ageL xs) k
    have hcl := hsl.le
    refine ct_seq ?_
    refine ct_reg ?_
    refine rl_val gw_none (ov_lss rfl rfl) rfl ?_
    refine rl_nil ?_
    refine at_then ?_
    refine ct_seq ?_
    first | refine ct_dec rfl (fun h2 => ?_) (fun h2 => ?_) | refine ct_ndec rfl (fun h2 => ?_) (fun h2 => ?_) | refine ct_eq rfl (fun h2 => ?_) (fun h2 => ?_) | refine ct_ne rfl (fun h2 => ?_) (fun h2 => ?_) | refine ct_not rfl (fun h2 => ?_) (fun h2 => ?_) | refine ct_cond rfl (fun h2 => ?_) (fun h2 => ?_)
    ·
      have hk2 : k < (ageL xs).length := by omega
      obtain ⟨bo0, rfl⟩ := slSomeG hsod (by omega)
      have hy := getLt hk2
      have hyb := exhsB_mem hok _ (ordG_mem.1 (List.getElem_mem hk2))
      generalize (ageL xs)[k] = y at *
      have hx := hy
      refine ct_skip ?_
      refine at_then ?_
      refine ct_seq ?_
      refine ct_block ?_
      refine ct_seq ?_
      refine ct_reg ?_
      first | refine rl_val gw_none (ov_ix Try.underlying27 sz46 rfl rfl _ rfl (by omega)) rfl ?_ | refine rl_val gw_none (ov_ix Try.underlying27 sz46 rfl rfl (k) (by omega) (by omega)) rfl ?_ | refine rl_val gw_none (ov_ix Try.underlying27 sz46 rfl rfl (j) (by omega) (by omega)) rfl ?_ | refine rl_val gw_none (ov_ix Try.underlying27 sz46 rfl rfl (p) (by omega) (by omega)) rfl ?_ | refine rl_val gw_none (ov_ix Try.underlying27 sz46 rfl rfl (z) (by omega) (by omega)) rfl ?_
      refine rl_val gw_none (ov_loada 2 ag46 rfl rfl (vs := encExhibit y) rfl (flatCells encExhibit_len hy _)) rfl ?_
      refine rl_alloc ze46 rfl (fun N1 => ?_)
      refine rl_store [] sz46 rfl rfl rfl rfl rfl (Nat.le_of_ble_eq_true rfl) ?_
      refine rl_nil ?_
      refine at_then ?_
      refine ct_seq ?_
      refine ct_reg ?_
      refine rl_val gw_none (ov_assign rfl) rfl ?_
      refine rl_nil ?_
      refine at_then ?_
      refine ct_seq ?_
      refine ct_seq ?_
      refine ct_reg ?_
      refine rl_val gw_none (ov_move rfl) rfl ?_
      refine rl_val gw_none (ov_len Try.underlying34 rfl) rfl ?_
      refine rl_val gw_none (ov_move rfl) rfl ?_
      refine rl_nil ?_
      refine at_then ?_
      refine ct_block ?_
      refine ct_loopR (ι := Nat) (fun j => [(8, .bool (memB y.land ((landF ((ageL xs).take k)).1.take j))), (24, .int .i64 j)]) [(2, _), (3, _), (4, _), (5, _), (7, _), (16, _), (17, _), (18, _), (22, _), (23, _)] (fun _ => _) (fun j => j ≤ (landF ((ageL xs).take k)).1.length) (fun j => (landF ((ageL xs).take k)).1.length - j) (0) (Sub.cons rfl (Sub.cons rfl (Sub.cons rfl (Sub.cons rfl (Sub.cons rfl (Sub.cons rfl (Sub.cons rfl (Sub.cons rfl (Sub.cons rfl (Sub.cons rfl Sub.nil)))))))))) (fun _ hq => hq) (by (repeat' (first | exact Sub.nil | refine Sub.cons ?_ ?_)); all_goals (first | rfl | exact lkInt rfl (by omega))) (by first | exact True.intro | omega | (dsimp only; omega) | (dsimp only at *; omega)) (fun j hj => ?_)
      refine ct_seq ?_
      refine ct_reg ?_
      refine rl_val gw_none (ov_lss rfl rfl) rfl ?_
      refine rl_nil ?_
      refine at_then ?_
      refine ct_seq ?_
      first | refine ct_dec rfl (fun h3 => ?_) (fun h3 => ?_) | refine ct_ndec rfl (fun h3 => ?_) (fun h3 => ?_) | refine ct_eq rfl (fun h3 => ?_) (fun h3 => ?_) | refine ct_ne rfl (fun h3 => ?_) (fun h3 => ?_) | refine ct_not rfl (fun h3 => ?_) (fun h3 => ?_) | refine ct_cond rfl (fun h3 => ?_) (fun h3 => ?_)
      ·
        have hj2 : j < (landF ((ageL xs).take k)).1.length := by omega
        obtain ⟨bj, rfl⟩ := slSomeG hsl (by omega)
        have ht := getLt hj2
        generalize (landF ((ageL xs).take k)).1[j] = t at *
        refine ct_skip ?_
        refine at_then ?_
        refine ct_seq ?_
        refine ct_block ?_
        refine ct_seq ?_
        refine ct_reg ?_
        first | refine rl_val gw_none (ov_ix Try.underlying34 sz9 rfl rfl _ rfl (by omega)) rfl ?_ | refine rl_val gw_none (ov_ix Try.underlying34 sz9 rfl rfl (k) (by omega) (by omega)) rfl ?_ | refine rl_val gw_none (ov_ix Try.underlying34 sz9 rfl rfl (j) (by omega) (by omega)) rfl ?_ | refine rl_val gw_none (ov_ix Try.underlying34 sz9 rfl rfl (p) (by omega) (by omega)) rfl ?_ | refine rl_val gw_none (ov_ix Try.underlying34 sz9 rfl rfl (z) (by omega) (by omega)) rfl ?_
        refine rl_val gw_none (ov_load 1 sc9 rfl rfl (flatGetG encS_len (f := 0) ht rfl _)) rfl ?_
        refine rl_val gw_none (ov_assign rfl) rfl ?_
        refine rl_nil ?_
        refine at_then ?_
        refine ct_reg ?_
        refine rl_val gw_none (ov_move rfl) rfl ?_
        refine rl_val gw_none (ov_move rfl) rfl ?_
        refine rl_split (t := 29) rfl (fun g1 => ?_) (fun g1 => ?_)
        ·
          have g1' := g1
          try simp only [Bool.not_eq_true', Bool.not_eq_false', Bool.not_not, decide_eq_true_eq, decide_eq_false_iff_not, beq_iff_eq, beq_eq_false_iff_ne, bne_iff_ne, bne_eq_false_iff_eq, Bool.and_eq_true, Bool.or_eq_true, Bool.and_eq_false_iff, Bool.or_eq_false_iff, inB] at g1'
          refine rl_skip (gw_not rfl rfl g1) rfl ?_
          refine rl_skip (gw_not rfl rfl g1) rfl ?_
          refine rl_skip (gw_not rfl rfl g1) rfl ?_
          refine rl_skip (gw_not rfl rfl g1) rfl ?_
          refine rl_val gw_none (ov_pick_t rfl g1 rfl) rfl ?_
          refine rl_val gw_none (ov_assign rfl) rfl ?_
          refine rl_nil ?_
          refine at_block ?_
          refine at_then ?_
          refine ct_reg ?_
          refine rl_val gw_none (ov_add rfl rfl (by omega)) rfl ?_
          refine rl_val gw_none (ov_move rfl) rfl ?_
          refine rl_nil ?_
          exact at_backR (j + 1) (by first | exact True.intro | omega | (dsimp only; omega) | (dsimp only at *; omega)) (by first | exact True.intro | omega | (dsimp only; omega) | (dsimp only at *; omega)) (by (repeat' (first | exact Sub.nil | refine Sub.cons ?_ ?_)); all_goals (first | rfl | exact lkInt rfl (by omega) | exact lkB rfl (by rw [memB_succ ht, g1]; rfl))) (Sub.cons rfl (Sub.cons rfl (Sub.cons rfl (Sub.cons rfl (Sub.cons rfl (Sub.cons rfl (Sub.cons rfl (Sub.cons rfl (Sub.cons rfl (Sub.cons rfl Sub.nil)))))))))) (fun _ hq => hq)
        ·
          have g1' := g1
          try simp only [Bool.not_eq_true', Bool.not_eq_false', Bool.not_not, decide_eq_true_eq, decide_eq_false_iff_not, beq_iff_eq, beq_eq_false_iff_ne, bne_iff_ne, bne_eq_false_iff_eq, Bool.and_eq_true, Bool.or_eq_true, Bool.and_eq_false_iff, Bool.or_eq_false_iff, inB] at g1'
          refine rl_val (gw_some rfl rfl g1) (ov_move rfl) rfl ?_
          refine rl_val (gw_some rfl rfl g1) (ov_field fo46_1 rfl) rfl ?_
          first | refine rl_val (gw_some rfl rfl g1) (ov_load 0 sc9 rfl rfl rfl) rfl ?_ | refine rl_val (gw_some rfl rfl g1) (ov_load 0 sc9 rfl rfl (by assumption)) rfl ?_
          refine rl_val (gw_some rfl rfl g1) (ov_seql rfl rfl) rfl ?_
          refine rl_val gw_none (ov_pick_f rfl g1 rfl) rfl ?_
          refine rl_val gw_none (ov_assign rfl) rfl ?_
          refine rl_nil ?_
          refine at_block ?_
          refine at_then ?_
          refine ct_reg ?_
          refine rl_val gw_none (ov_add rfl rfl (by omega)) rfl ?_
          refine rl_val gw_none (ov_move rfl) rfl ?_
          refine rl_nil ?_
          exact at_backR (j + 1) (by first | exact True.intro | omega | (dsimp only; omega) | (dsimp only at *; omega)) (by first | exact True.intro | omega | (dsimp only; omega) | (dsimp only at *; omega)) (by (repeat' (first | exact Sub.nil | refine Sub.cons ?_ ?_)); all_goals (first | rfl | exact lkInt rfl (by omega) | exact lkB rfl (by rw [memB_succ ht, g1]; rfl))) (Sub.cons rfl (Sub.cons rfl (Sub.cons rfl (Sub.cons rfl (Sub.cons rfl (Sub.cons rfl (Sub.cons rfl (Sub.cons rfl (Sub.cons rfl (Sub.cons rfl Sub.nil)))))))))) (fun _ hq => hq)
      ·
        have hje : j = (landF ((ageL xs).take k)).1.length := by omega
        subst hje
        refine ct_exit ?_
        refine at_then_exit ?_
        refine at_then_exit ?_
        refine at_block_hit ?_
        refine at_then ?_
        refine ct_seq ?_
        refine ct_seq ?_
        refine ct_reg ?_
        refine rl_val gw_none (ov_move rfl) rfl ?_
        refine rl_nil ?_
        refine at_then ?_
        first | refine ct_dec rfl (fun h4 => ?_) (fun h4 => ?_) | refine ct_ndec rfl (fun h4 => ?_) (fun h4 => ?_) | refine ct_eq rfl (fun h4 => ?_) (fun h4 => ?_) | refine ct_ne rfl (fun h4 => ?_) (fun h4 => ?_) | refine ct_not rfl (fun h4 => ?_) (fun h4 => ?_) | refine ct_cond rfl (fun h4 => ?_) (fun h4 => ?_)
        ·
          rw [List.take_length] at h4
          refine ct_exit ?_
          refine at_then_exit ?_
          refine at_block_hit ?_
          refine at_then ?_
          refine ct_reg ?_
          refine rl_val gw_none (ov_add rfl rfl (by omega)) rfl ?_
          refine rl_val gw_none (ov_move rfl) rfl ?_
          refine rl_nil ?_
          have hts := landF_known hy h4
          exact at_backR (k + 1, (bo, cap, pad), (bo2, cap2, pad2)) ⟨hk2, by dsimp only; rw [hts]; exact hsl, by dsimp only; rw [hts]; exact hsm⟩ (by dsimp only; omega) (by dsimp only; rw [hts]; (repeat' (first | exact Sub.nil | refine Sub.cons ?_ ?_)); all_goals (first | rfl | exact lkInt rfl (by omega))) (Sub.cons rfl (Sub.cons rfl (Sub.cons rfl (Sub.cons rfl Sub.nil)))) (fun _ hp => ((Hp.sub (Hp.pull (Hp.pull (Hp.pull hp 3 rfl) 3 rfl) 3 rfl) (List.sublist_append_left [_, _, _] _))).cong (by dsimp only; rw [hts]; try rfl))
        ·
          rw [List.take_length] at h4
          refine ct_skip ?_
          refine at_then ?_
          refine ct_seq ?_
          refine ct_reg ?_
          refine rl_val gw_none (ov_move rfl) rfl ?_
          refine rl_val gw_none (ov_len Try.underlying34 rfl) rfl ?_
          refine rl_val gw_none (ov_assign rfl) rfl ?_
          refine rl_nil ?_
          refine at_then ?_
          refine ct_seq ?_
          refine ct_block ?_
          refine ct_loopR (ι := Nat) (fun q => [(11, .int .i64 q)]) [(2, _), (3, _), (4, _), (5, _), (7, _), (16, _), (17, _), (18, _)] (fun _ => _) (fun q => q ≤ (landF ((ageL xs).take k)).1.length ∧ landQ (landF ((ageL xs).take k)).2 (landF ((ageL xs).take k)).1 y q = landQ (landF ((ageL xs).take k)).2 (landF ((ageL xs).take k)).1 y (landF ((ageL xs).take k)).1.length) (fun q => q) ((landF ((ageL xs).take k)).1.length) (Sub.cons rfl (Sub.cons rfl (Sub.cons rfl (Sub.cons rfl (Sub.cons rfl (Sub.cons rfl (Sub.cons rfl (Sub.cons rfl Sub.nil)))))))) (fun _ hq => hq) (by (repeat' (first | exact Sub.nil | refine Sub.cons ?_ ?_)); all_goals (first | rfl | exact lkInt rfl (by omega))) ⟨Nat.le_refl _, rfl⟩ (fun q hq => ?_)
          obtain ⟨hql, hins⟩ := hq
          refine ct_seq ?_
          refine ct_seq ?_
          refine ct_dr 22 (by kernel_rfl) (by kernel_rfl) ?_
          refine ql_val gw_none (ov_move rfl) rfl ?_
          refine ql_val gw_none (ov_gtr rfl rfl) rfl ?_
          refine ql_val gw_none (ov_move rfl) rfl ?_
          refine ql_split (t := 41) rfl (fun g2 => ?_) (fun g2 => ?_)
          ·
            have hq0 : 0 < q := by simpa using g2
            obtain ⟨p, rfl⟩ : ∃ p, q = p + 1 := ⟨q - 1, by omega⟩
            have hp2 : p < (landF ((ageL xs).take k)).1.length := by omega
            have hp3 : p < (landF ((ageL xs).take k)).2.length := by omega
            obtain ⟨bz, rfl⟩ := slSomeG hsl (by omega)
            obtain ⟨bz2, rfl⟩ := slSomeG hsm (by omega)
            have hs := getLt hp2
            have hm := getLt hp3
            generalize (landF ((ageL xs).take k)).1[p] = s at *
            generalize (landF ((ageL xs).take k)).2[p] = u at *
            refine ql_val (gw_some rfl rfl g2) (ov_move rfl) rfl ?_
            refine ql_val (gw_some rfl rfl g2) (ov_move rfl) rfl ?_
            refine ql_val (gw_some rfl rfl g2) (ov_sub rfl rfl (by omega)) rfl ?_
            first | refine ql_val (gw_some rfl rfl g2) (ov_ix Try.underlying24 sz3 rfl rfl _ rfl (by omega)) rfl ?_ | refine ql_val (gw_some rfl rfl g2) (ov_ix Try.underlying24 sz3 rfl rfl (k) (by omega) (by omega)) rfl ?_ | refine ql_val (gw_some rfl rfl g2) (ov_ix Try.underlying24 sz3 rfl rfl (j) (by omega) (by omega)) rfl ?_ | refine ql_val (gw_some rfl rfl g2) (ov_ix Try.underlying24 sz3 rfl rfl (p) (by omega) (by omega)) rfl ?_ | refine ql_val (gw_some rfl rfl g2) (ov_ix Try.underlying24 sz3 rfl rfl (z) (by omega) (by omega)) rfl ?_
            refine ql_val (gw_some rfl rfl g2) (ov_load 2 sc3 rfl rfl (intsAtP hm _)) rfl ?_
            refine ql_val (gw_some rfl rfl g2) (ov_field fo46_2 rfl) rfl ?_
            first | refine ql_val (gw_some rfl rfl g2) (ov_load 0 sc3 rfl rfl rfl) rfl ?_ | refine ql_val (gw_some rfl rfl g2) (ov_load 0 sc3 rfl rfl (by assumption)) rfl ?_
            refine ql_val (gw_some rfl rfl g2) (ov_eql rfl rfl) rfl ?_
            refine ql_val gw_none (ov_pick_t rfl g2 rfl) rfl ?_
            refine ql_val gw_none (ov_move rfl) rfl ?_
            refine ql_split (t := 51) rfl (fun g3 => ?_) (fun g3 => ?_)
            ·
              skip
              refine ql_val (gw_some rfl rfl g3) (ov_move rfl) rfl ?_
              refine ql_val (gw_some rfl rfl g3) (ov_move rfl) rfl ?_
              refine ql_val (gw_some rfl rfl g3) (ov_sub rfl rfl (by omega)) rfl ?_
              first | refine ql_val (gw_some rfl rfl g3) (ov_ix Try.underlying34 sz9 rfl rfl _ rfl (by omega)) rfl ?_ | refine ql_val (gw_some rfl rfl g3) (ov_ix Try.underlying34 sz9 rfl rfl (k) (by omega) (by omega)) rfl ?_ | refine ql_val (gw_some rfl rfl g3) (ov_ix Try.underlying34 sz9 rfl rfl (j) (by omega) (by omega)) rfl ?_ | refine ql_val (gw_some rfl rfl g3) (ov_ix Try.underlying34 sz9 rfl rfl (p) (by omega) (by omega)) rfl ?_ | refine ql_val (gw_some rfl rfl g3) (ov_ix Try.underlying34 sz9 rfl rfl (z) (by omega) (by omega)) rfl ?_
              refine ql_val (gw_some rfl rfl g3) (ov_load 1 sc9 rfl rfl (flatGetG encS_len (f := 0) hs rfl _)) rfl ?_
              refine ql_val (gw_some rfl rfl g3) (ov_field fo46_1 rfl) rfl ?_
              first | refine ql_val (gw_some rfl rfl g3) (ov_load 0 sc9 rfl rfl rfl) rfl ?_ | refine ql_val (gw_some rfl rfl g3) (ov_load 0 sc9 rfl rfl (by assumption)) rfl ?_
              refine ql_val (gw_some rfl rfl g3) (ov_sgtr rfl rfl) rfl ?_
              refine ql_val gw_none (ov_pick_t rfl g3 rfl) rfl ?_
              refine ql_nil ?_
              refine rl_nil ?_
              refine at_then ?_
              first | refine ct_dec rfl (fun h5 => ?_) (fun h5 => ?_) | refine ct_ndec rfl (fun h5 => ?_) (fun h5 => ?_) | refine ct_eq rfl (fun h5 => ?_) (fun h5 => ?_) | refine ct_ne rfl (fun h5 => ?_) (fun h5 => ?_) | refine ct_not rfl (fun h5 => ?_) (fun h5 => ?_) | refine ct_cond rfl (fun h5 => ?_) (fun h5 => ?_)
              ·
                refine ct_skip ?_
                refine at_then ?_
                refine ct_block ?_
                refine ct_reg ?_
                refine rl_val gw_none (ov_move rfl) rfl ?_
                refine rl_val gw_none (ov_sub rfl rfl (by omega)) rfl ?_
                refine rl_val gw_none (ov_assign rfl) rfl ?_
                refine rl_nil ?_
                refine at_block ?_
                have hg : (u == y.made && !(Op.bytesLess s.toList y.land.toList || s.toList == y.land.toList)) = true := by rw [g3, h5]; rfl
                have hpy := landQ_yes hm hs hg
                exact at_backR p ⟨by omega, by rw [← hpy]; exact hins⟩ (by first | exact True.intro | omega | (dsimp only; omega) | (dsimp only at *; omega)) (by (repeat' (first | exact Sub.nil | refine Sub.cons ?_ ?_)); all_goals (first | rfl | exact lkInt rfl (by omega))) (Sub.cons rfl (Sub.cons rfl (Sub.cons rfl (Sub.cons rfl (Sub.cons rfl (Sub.cons rfl (Sub.cons rfl (Sub.cons rfl Sub.nil)))))))) (fun _ hq => hq)
              ·
                have hg : (u == y.made && !(Op.bytesLess s.toList y.land.toList || s.toList == y.land.toList)) = false := by rw [g3, h5]; rfl
                obtain ⟨z, hz⟩ : ∃ z, z = landQ (landF ((ageL xs).take k)).2 (landF ((ageL xs).take k)).1 y (landF ((ageL xs).take k)).1.length := ⟨_, rfl⟩
                have hze : p + 1 = z := by rw [hz, ← hins, landQ_no hm hs hg]
                have hzl := landQ_le (landF ((ageL xs).take k)).2 (landF ((ageL xs).take k)).1 y (landF ((ageL xs).take k)).1.length
                refine ct_exit ?_
                refine at_then_exit ?_
                refine at_then_exit ?_
                refine at_block_hit ?_
                refine at_then ?_
                refine ct_seq ?_
                refine ct_reg ?_
                refine rl_val gw_none (ov_move rfl) rfl ?_
                refine rl_bslice Try.underlying34 ze9 sz9 rfl rfl rfl rfl rfl rfl (fun N2 => ?_)
                refine rl_appT (flat encS) ((flat_append _)) [_, _] (acc := (landF ((ageL xs).take k)).1) Try.underlying34 ze9 sz9 rfl rfl by9 rfl rfl rfl hsl ([(⟨#[]⟩ : ByteArray)]) rfl (fun w1 hp => hp.sr1 0 rfl rfl (by decide)) (flat_one encS_one _) (by unfold maxLen; first | omega | (simp; omega)) (by first | omega | (simp; omega)) rfl (fun boq1 capq1 padq1 hsq1 => ?_)
                obtain ⟨bq1, rfl⟩ := slSomeG hsq1 (by simp)
                have hol2 : ((landF ((ageL xs).take k)).1 ++ [(⟨#[]⟩ : ByteArray)]).length = (landF ((ageL xs).take k)).1.length + 1 := by simp
                have hleq1 := hsq1.le
                refine rl_val gw_none (ov_assign rfl) rfl ?_
                refine rl_nil ?_
                refine at_then ?_
                refine ct_seq ?_
                refine ct_dr 7 (by kernel_rfl) (by kernel_rfl) ?_
                refine ql_val gw_none (ov_move rfl) rfl ?_
                refine ql_val gw_none (ov_move rfl) rfl ?_
                refine ql_val gw_none (ov_add rfl rfl (by omega)) rfl ?_
                refine ql_val gw_none (ov_subl Try.underlying34 sz9 rfl rfl (z + 1) (by omega) (by omega)) rfl ?_
                refine ql_val gw_none (ov_move rfl) rfl ?_
                refine ql_val gw_none (ov_move rfl) rfl ?_
                refine ql_val gw_none (ov_subl Try.underlying34 sz9 rfl rfl (z) (by omega) (by omega)) rfl ?_
                refine ql_nil ?_
                refine rl_copy [_, _] Try.underlying34 sz9 rfl rfl rfl rfl (fun w1 hp => (SR.drop (hp.slsr 2 rfl hsq1) (lo := z) (by omega) (by omega)).cast rfl (flat_drop encS_len _ _).symm) ((landF ((ageL xs).take k)).1.length - z) (by show _ = min _ _; omega) (by omega) (by rw [List.length_append, flat_length encS_len, hol2]; omega) (flat_one encS_one _) rfl ?_
                refine rl_mem (fun _ hq => hq.cong (congrArg (fun x => _ :: _ :: (_, _, x) :: _) (copyFoldG encS_len (by omega) _))) ?_
                refine rl_nil ?_
                refine at_then ?_
                refine ct_seq ?_
                refine ct_reg ?_
                refine rl_val gw_none (ov_move rfl) rfl ?_
                refine rl_val gw_none (ov_move rfl) rfl ?_
                refine rl_val gw_none (ov_field fo46_1 rfl) rfl ?_
                first | refine rl_val gw_none (ov_load 1 sc9 rfl rfl rfl) rfl ?_ | refine rl_val gw_none (ov_load 1 sc9 rfl rfl (by assumption)) rfl ?_
                refine rl_val gw_none (ov_ix Try.underlying34 sz9 rfl rfl (z) (by omega) (by omega)) rfl ?_
                refine rl_store [_, _] sz9 rfl rfl rfl rfl rfl (by rw [List.length_append, flat_length encS_len]; simp; omega) ?_
                refine rl_mem (fun _ hq => hq.cong (congrArg (fun x => _ :: _ :: (_, _, x) :: _) (insPutG encS_len (by omega) (show landI (landF ((ageL xs).take k)).2 (landF ((ageL xs).take k)).1 y = _ by rw [landI, hz]) _))) ?_
                refine rl_nil ?_
                refine at_then ?_
                refine ct_reg ?_
                refine rl_val gw_none (ov_move rfl) rfl ?_
                refine rl_val gw_none (ov_field fo46_2 rfl) rfl ?_
                first | refine rl_val gw_none (ov_load 1 sc3 rfl rfl rfl) rfl ?_ | refine rl_val gw_none (ov_load 1 sc3 rfl rfl (by assumption)) rfl ?_
                refine rl_bslice Try.underlying24 ze3 sz3 rfl rfl rfl rfl rfl rfl (fun N3 => ?_)
                refine rl_appT (ints) (ints_append) [_, _, _, _] (acc := (landF ((ageL xs).take k)).2) Try.underlying24 ze3 sz3 rfl rfl by3 rfl rfl rfl hsm ([y.made]) rfl (fun w1 hp => hp.sr1 0 rfl rfl (by decide)) (ints_one _) (by unfold maxLen; omega) (by omega) rfl (fun boq2 capq2 padq2 hsq2 => ?_)
                refine rl_val gw_none (ov_assign rfl) rfl ?_
                refine rl_nil ?_
                refine at_block ?_
                refine at_then ?_
                refine ct_reg ?_
                refine rl_val gw_none (ov_add rfl rfl (by omega)) rfl ?_
                refine rl_val gw_none (ov_move rfl) rfl ?_
                refine rl_nil ?_
                have hts := landF_new hy h4
                have hl2 : (landI (landF ((ageL xs).take k)).2 (landF ((ageL xs).take k)).1 y).length = ((landF ((ageL xs).take k)).1 ++ [(⟨#[]⟩ : ByteArray)]).length := by rw [landI_len]; simp
                exact at_backR (k + 1, (some bq1, capq1, padq1), (boq2, capq2, padq2)) ⟨hk2, by dsimp only; rw [hts]; exact slSameG encS_len hsq1 hl2, by dsimp only; rw [hts]; exact hsq2⟩ (by dsimp only; omega) (by dsimp only; rw [hts]; dsimp only; rw [hl2]; (repeat' (first | exact Sub.nil | refine Sub.cons ?_ ?_)); all_goals (first | rfl | exact lkInt rfl (by omega))) (Sub.cons rfl (Sub.cons rfl (Sub.cons rfl (Sub.cons rfl Sub.nil)))) (fun _ hp => ((Hp.sub (Hp.pull (Hp.pull (Hp.pull hp 5 rfl) 5 rfl) 5 rfl) (List.sublist_append_left [_, _, _] _))).cong (by dsimp only; rw [hts]; try rfl))
            ·
              have hg : (u == y.made && !(Op.bytesLess s.toList y.land.toList || s.toList == y.land.toList)) = false := by rw [g3]; rfl
              obtain ⟨z, hz⟩ : ∃ z, z = landQ (landF ((ageL xs).take k)).2 (landF ((ageL xs).take k)).1 y (landF ((ageL xs).take k)).1.length := ⟨_, rfl⟩
              have hze : p + 1 = z := by rw [hz, ← hins, landQ_no hm hs hg]
              have hzl := landQ_le (landF ((ageL xs).take k)).2 (landF ((ageL xs).take k)).1 y (landF ((ageL xs).take k)).1.length
              refine ql_skip (gw_not rfl rfl g3) rfl ?_
              refine ql_skip (gw_not rfl rfl g3) rfl ?_
              refine ql_skip (gw_not rfl rfl g3) rfl ?_
              refine ql_skip (gw_not rfl rfl g3) rfl ?_
              refine ql_skip (gw_not rfl rfl g3) rfl ?_
              refine ql_skip (gw_not rfl rfl g3) rfl ?_
              refine ql_skip (gw_not rfl rfl g3) rfl ?_
              refine ql_skip (gw_not rfl rfl g3) rfl ?_
              refine ql_val gw_none (ov_pick_f rfl g3 rfl) rfl ?_
              refine ql_nil ?_
              refine rl_nil ?_
              refine at_then ?_
              refine ct_false rfl rfl ?_
              refine ct_exit ?_
              refine at_then_exit ?_
              refine at_then_exit ?_
              refine at_block_hit ?_
              refine at_then ?_
              refine ct_seq ?_
              refine ct_reg ?_
              refine rl_val gw_none (ov_move rfl) rfl ?_
              refine rl_bslice Try.underlying34 ze9 sz9 rfl rfl rfl rfl rfl rfl (fun N4 => ?_)
              refine rl_appT (flat encS) ((flat_append _)) [_, _] (acc := (landF ((ageL xs).take k)).1) Try.underlying34 ze9 sz9 rfl rfl by9 rfl rfl rfl hsl ([(⟨#[]⟩ : ByteArray)]) rfl (fun w1 hp => hp.sr1 0 rfl rfl (by decide)) (flat_one encS_one _) (by unfold maxLen; first | omega | (simp; omega)) (by first | omega | (simp; omega)) rfl (fun boq3 capq3 padq3 hsq3 => ?_)
              obtain ⟨bq3, rfl⟩ := slSomeG hsq3 (by simp)
              have hol2 : ((landF ((ageL xs).take k)).1 ++ [(⟨#[]⟩ : ByteArray)]).length = (landF ((ageL xs).take k)).1.length + 1 := by simp
              have hleq3 := hsq3.le
              refine rl_val gw_none (ov_assign rfl) rfl ?_
              refine rl_nil ?_
              refine at_then ?_
              refine ct_seq ?_
              refine ct_dr 7 (by kernel_rfl) (by kernel_rfl) ?_
              refine ql_val gw_none (ov_move rfl) rfl ?_
              refine ql_val gw_none (ov_move rfl) rfl ?_
              refine ql_val gw_none (ov_add rfl rfl (by omega)) rfl ?_
              refine ql_val gw_none (ov_subl Try.underlying34 sz9 rfl rfl (z + 1) (by omega) (by omega)) rfl ?_
              refine ql_val gw_none (ov_move rfl) rfl ?_
              refine ql_val gw_none (ov_move rfl) rfl ?_
              refine ql_val gw_none (ov_subl Try.underlying34 sz9 rfl rfl (z) (by omega) (by omega)) rfl ?_
              refine ql_nil ?_
              refine rl_copy [_, _] Try.underlying34 sz9 rfl rfl rfl rfl (fun w1 hp => (SR.drop (hp.slsr 2 rfl hsq3) (lo := z) (by omega) (by omega)).cast rfl (flat_drop encS_len _ _).symm) ((landF ((ageL xs).take k)).1.length - z) (by show _ = min _ _; omega) (by omega) (by rw [List.length_append, flat_length encS_len, hol2]; omega) (flat_one encS_one _) rfl ?_
              refine rl_mem (fun _ hq => hq.cong (congrArg (fun x => _ :: _ :: (_, _, x) :: _) (copyFoldG encS_len (by omega) _))) ?_
              refine rl_nil ?_
              refine at_then ?_
              refine ct_seq ?_
              refine ct_reg ?_
              refine rl_val gw_none (ov_move rfl) rfl ?_
              refine rl_val gw_none (ov_move rfl) rfl ?_
              refine rl_val gw_none (ov_field fo46_1 rfl) rfl ?_
              first | refine rl_val gw_none (ov_load 1 sc9 rfl rfl rfl) rfl ?_ | refine rl_val gw_none (ov_load 1 sc9 rfl rfl (by assumption)) rfl ?_
              refine rl_val gw_none (ov_ix Try.underlying34 sz9 rfl rfl (z) (by omega) (by omega)) rfl ?_
              refine rl_store [_, _] sz9 rfl rfl rfl rfl rfl (by rw [List.length_append, flat_length encS_len]; simp; omega) ?_
              refine rl_mem (fun _ hq => hq.cong (congrArg (fun x => _ :: _ :: (_, _, x) :: _) (insPutG encS_len (by omega) (show landI (landF ((ageL xs).take k)).2 (landF ((ageL xs).take k)).1 y = _ by rw [landI, hz]) _))) ?_
              refine rl_nil ?_
              refine at_then ?_
              refine ct_reg ?_
              refine rl_val gw_none (ov_move rfl) rfl ?_
              refine rl_val gw_none (ov_field fo46_2 rfl) rfl ?_
              first | refine rl_val gw_none (ov_load 1 sc3 rfl rfl rfl) rfl ?_ | refine rl_val gw_none (ov_load 1 sc3 rfl rfl (by assumption)) rfl ?_
              refine rl_bslice Try.underlying24 ze3 sz3 rfl rfl rfl rfl rfl rfl (fun N5 => ?_)
              refine rl_appT (ints) (ints_append) [_, _, _, _] (acc := (landF ((ageL xs).take k)).2) Try.underlying24 ze3 sz3 rfl rfl by3 rfl rfl rfl hsm ([y.made]) rfl (fun w1 hp => hp.sr1 0 rfl rfl (by decide)) (ints_one _) (by unfold maxLen; omega) (by omega) rfl (fun boq4 capq4 padq4 hsq4 => ?_)
              refine rl_val gw_none (ov_assign rfl) rfl ?_
              refine rl_nil ?_
              refine at_block ?_
              refine at_then ?_
              refine ct_reg ?_
              refine rl_val gw_none (ov_add rfl rfl (by omega)) rfl ?_
              refine rl_val gw_none (ov_move rfl) rfl ?_
              refine rl_nil ?_
              have hts := landF_new hy h4
              have hl2 : (landI (landF ((ageL xs).take k)).2 (landF ((ageL xs).take k)).1 y).length = ((landF ((ageL xs).take k)).1 ++ [(⟨#[]⟩ : ByteArray)]).length := by rw [landI_len]; simp
              exact at_backR (k + 1, (some bq3, capq3, padq3), (boq4, capq4, padq4)) ⟨hk2, by dsimp only; rw [hts]; exact slSameG encS_len hsq3 hl2, by dsimp only; rw [hts]; exact hsq4⟩ (by dsimp only; omega) (by dsimp only; rw [hts]; dsimp only; rw [hl2]; (repeat' (first | exact Sub.nil | refine Sub.cons ?_ ?_)); all_goals (first | rfl | exact lkInt rfl (by omega))) (Sub.cons rfl (Sub.cons rfl (Sub.cons rfl (Sub.cons rfl Sub.nil)))) (fun _ hp => ((Hp.sub (Hp.pull (Hp.pull (Hp.pull hp 5 rfl) 5 rfl) 5 rfl) (List.sublist_append_left [_, _, _] _))).cong (by dsimp only; rw [hts]; try rfl))
          ·
            have hq0 : q = 0 := by simp at g2; omega
            subst hq0
            obtain ⟨z, hz⟩ : ∃ z, z = landQ (landF ((ageL xs).take k)).2 (landF ((ageL xs).take k)).1 y (landF ((ageL xs).take k)).1.length := ⟨_, rfl⟩
            have hze : 0 = z := by rw [hz, ← hins]; rfl
            have hzl := landQ_le (landF ((ageL xs).take k)).2 (landF ((ageL xs).take k)).1 y (landF ((ageL xs).take k)).1.length
            refine ql_skip (gw_not rfl rfl g2) rfl ?_
            refine ql_skip (gw_not rfl rfl g2) rfl ?_
            refine ql_skip (gw_not rfl rfl g2) rfl ?_
            refine ql_skip (gw_not rfl rfl g2) rfl ?_
            refine ql_skip (gw_not rfl rfl g2) rfl ?_
            refine ql_skip (gw_not rfl rfl g2) rfl ?_
            refine ql_skip (gw_not rfl rfl g2) rfl ?_
            refine ql_skip (gw_not rfl rfl g2) rfl ?_
            refine ql_val gw_none (ov_pick_f rfl g2 rfl) rfl ?_
            refine ql_val gw_none (ov_move rfl) rfl ?_
            refine ql_skip (gw_not rfl rfl rfl) rfl ?_
            refine ql_skip (gw_not rfl rfl rfl) rfl ?_
            refine ql_skip (gw_not rfl rfl rfl) rfl ?_
            refine ql_skip (gw_not rfl rfl rfl) rfl ?_
            refine ql_skip (gw_not rfl rfl rfl) rfl ?_
            refine ql_skip (gw_not rfl rfl rfl) rfl ?_
            refine ql_skip (gw_not rfl rfl rfl) rfl ?_
            refine ql_skip (gw_not rfl rfl rfl) rfl ?_
            refine ql_val gw_none (ov_pick_f rfl rfl rfl) rfl ?_
            refine ql_nil ?_
            refine rl_nil ?_
            refine at_then ?_
            refine ct_false rfl rfl ?_
            refine ct_exit ?_
            refine at_then_exit ?_
            refine at_then_exit ?_
            refine at_block_hit ?_
            refine at_then ?_
            refine ct_seq ?_
            refine ct_reg ?_
            refine rl_val gw_none (ov_move rfl) rfl ?_
            refine rl_bslice Try.underlying34 ze9 sz9 rfl rfl rfl rfl rfl rfl (fun N6 => ?_)
            refine rl_appT (flat encS) ((flat_append _)) [_, _] (acc := (landF ((ageL xs).take k)).1) Try.underlying34 ze9 sz9 rfl rfl by9 rfl rfl rfl hsl ([(⟨#[]⟩ : ByteArray)]) rfl (fun w1 hp => hp.sr1 0 rfl rfl (by decide)) (flat_one encS_one _) (by unfold maxLen; first | omega | (simp; omega)) (by first | omega | (simp; omega)) rfl (fun boq5 capq5 padq5 hsq5 => ?_)
            obtain ⟨bq5, rfl⟩ := slSomeG hsq5 (by simp)
            have hol2 : ((landF ((ageL xs).take k)).1 ++ [(⟨#[]⟩ : ByteArray)]).length = (landF ((ageL xs).take k)).1.length + 1 := by simp
            have hleq5 := hsq5.le
            refine rl_val gw_none (ov_assign rfl) rfl ?_
            refine rl_nil ?_
            refine at_then ?_
            refine ct_seq ?_
            refine ct_dr 7 (by kernel_rfl) (by kernel_rfl) ?_
            refine ql_val gw_none (ov_move rfl) rfl ?_
            refine ql_val gw_none (ov_move rfl) rfl ?_
            refine ql_val gw_none (ov_add rfl rfl (by omega)) rfl ?_
            refine ql_val gw_none (ov_subl Try.underlying34 sz9 rfl rfl (z + 1) (by omega) (by omega)) rfl ?_
            refine ql_val gw_none (ov_move rfl) rfl ?_
            refine ql_val gw_none (ov_move rfl) rfl ?_
            refine ql_val gw_none (ov_subl Try.underlying34 sz9 rfl rfl (z) (by omega) (by omega)) rfl ?_
            refine ql_nil ?_
            refine rl_copy [_, _] Try.underlying34 sz9 rfl rfl rfl rfl (fun w1 hp => (SR.drop (hp.slsr 2 rfl hsq5) (lo := z) (by omega) (by omega)).cast rfl (flat_drop encS_len _ _).symm) ((landF ((ageL xs).take k)).1.length - z) (by show _ = min _ _; omega) (by omega) (by rw [List.length_append, flat_length encS_len, hol2]; omega) (flat_one encS_one _) rfl ?_
            refine rl_mem (fun _ hq => hq.cong (congrArg (fun x => _ :: _ :: (_, _, x) :: _) (copyFoldG encS_len (by omega) _))) ?_
            refine rl_nil ?_
            refine at_then ?_
            refine ct_seq ?_
            refine ct_reg ?_
            refine rl_val gw_none (ov_move rfl) rfl ?_
            refine rl_val gw_none (ov_move rfl) rfl ?_
            refine rl_val gw_none (ov_field fo46_1 rfl) rfl ?_
            first | refine rl_val gw_none (ov_load 1 sc9 rfl rfl rfl) rfl ?_ | refine rl_val gw_none (ov_load 1 sc9 rfl rfl (by assumption)) rfl ?_
            refine rl_val gw_none (ov_ix Try.underlying34 sz9 rfl rfl (z) (by omega) (by omega)) rfl ?_
            refine rl_store [_, _] sz9 rfl rfl rfl rfl rfl (by rw [List.length_append, flat_length encS_len]; simp; omega) ?_
            refine rl_mem (fun _ hq => hq.cong (congrArg (fun x => _ :: _ :: (_, _, x) :: _) (insPutG encS_len (by omega) (show landI (landF ((ageL xs).take k)).2 (landF ((ageL xs).take k)).1 y = _ by rw [landI, hz]) _))) ?_
            refine rl_nil ?_
            refine at_then ?_
            refine ct_reg ?_
            refine rl_val gw_none (ov_move rfl) rfl ?_
            refine rl_val gw_none (ov_field fo46_2 rfl) rfl ?_
            first | refine rl_val gw_none (ov_load 1 sc3 rfl rfl rfl) rfl ?_ | refine rl_val gw_none (ov_load 1 sc3 rfl rfl (by assumption)) rfl ?_
            refine rl_bslice Try.underlying24 ze3 sz3 rfl rfl rfl rfl rfl rfl (fun N7 => ?_)
            refine rl_appT (ints) (ints_append) [_, _, _, _] (acc := (landF ((ageL xs).take k)).2) Try.underlying24 ze3 sz3 rfl rfl by3 rfl rfl rfl hsm ([y.made]) rfl (fun w1 hp => hp.sr1 0 rfl rfl (by decide)) (ints_one _) (by unfold maxLen; omega) (by omega) rfl (fun boq6 capq6 padq6 hsq6 => ?_)
            refine rl_val gw_none (ov_assign rfl) rfl ?_
            refine rl_nil ?_
            refine at_block ?_
            refine at_then ?_
            refine ct_reg ?_
            refine rl_val gw_none (ov_add rfl rfl (by omega)) rfl ?_
            refine rl_val gw_none (ov_move rfl) rfl ?_
            refine rl_nil ?_
            have hts := landF_new hy h4
            have hl2 : (landI (landF ((ageL xs).take k)).2 (landF ((ageL xs).take k)).1 y).length = ((landF ((ageL xs).take k)).1 ++ [(⟨#[]⟩ : ByteArray)]).length := by rw [landI_len]; simp
            exact at_backR (k + 1, (some bq5, capq5, padq5), (boq6, capq6, padq6)) ⟨hk2, by dsimp only; rw [hts]; exact slSameG encS_len hsq5 hl2, by dsimp only; rw [hts]; exact hsq6⟩ (by dsimp only; omega) (by dsimp only; rw [hts]; dsimp only; rw [hl2]; (repeat' (first | exact Sub.nil | refine Sub.cons ?_ ?_)); all_goals (first | rfl | exact lkInt rfl (by omega))) (Sub.cons rfl (Sub.cons rfl (Sub.cons rfl (Sub.cons rfl Sub.nil)))) (fun _ hp => ((Hp.sub (Hp.pull (Hp.pull (Hp.pull hp 5 rfl) 5 rfl) 5 rfl) (List.sublist_append_left [_, _, _] _))).cong (by dsimp only; rw [hts]; try rfl))
    ·
      have hke : k = (ageL xs).length := by omega
      subst hke
      refine ct_exit ?_
      refine at_then_exit ?_
      refine at_then_exit ?_
      refine at_block_hit ?_
      refine at_then ?_
      refine ct_seq ?_
      refine ct_reg ?_
      refine rl_val gw_none (ov_move rfl) rfl ?_
      refine rl_val gw_none (ov_assign rfl) rfl ?_
      refine rl_val gw_none (ov_assign rfl) rfl ?_
      refine rl_nil ?_
      refine at_then ?_
      refine ct_ret ?_
      refine at_ret2 Try.results17 (ro_tmp rfl) (ro_tmp rfl) (fun w1 hp => ?_)
      first | (rw [show landsR xs = (landF ((ageL xs).take (ageL xs).length)).1 by rw [landsR_yes hok, List.take_length], hok]; exact RetSl.own 0 hp rfl hsl) | (have hb : exhsB xs = false := (by simpa using h1); rw [landsR_no hb, hb]; first | exact RetSl.nil hp.ext0 | exact RetSl.lit 0 hp rfl rfl (by decide))
end Go.Proofs.Ytfelindekikaeaa
