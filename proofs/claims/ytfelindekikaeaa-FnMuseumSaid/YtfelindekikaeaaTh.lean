import Derived.Test.YtfelindekikaeaaTc
import Derived.Test.YtfelindekikaeaaTe
import Derived.Test.YtfelindekikaeaaTf
import Derived.Test.YtfelindekikaeaaTg
import Derived.KernelRfl
set_option linter.unusedVariables false
set_option linter.unusedSimpArgs false
namespace Go.Proofs.Ytfelindekikaeaa
open Go Go.RowKit K
theorem iKinsOf_c (xs : List Exhibit) (i : Int) (vxs : Value) (w : World) (hGxs : ∀ y ∈ xs, GExhibit y) (hsxs : SR w 7 vxs xs.length (flat encExhibit xs)) (zi : In64 i) : Calls Try.prog 10 ([vxs, .int .i64 i]).toArray w (fun e w' => RetSl 3 1 (ints (kinsR xs i)) ((kinsR xs i).length) (fun s => .tuple #[s, .bool (kinsB xs i)]) w e w') := by
  obtain ⟨axs, capxs, rfl, hcapxs, hmaxxs⟩ := hsxs.slice
  have hlenxs := hsxs.len_le
  refine calls_ct Try.func10 Try.ntmps10 rfl rfl ?_
  refine ct_seq ?_
  refine ct_reg ?_
  refine rl_val gw_none (ov_assign rfl) rfl ?_
  refine rl_val gw_none (ov_assign rfl) rfl ?_
  refine rl_nil ?_
  refine at_then ?_
  refine ct_seq ?_
  refine ct_reg ?_
  refine rl_val gw_none (ov_move rfl) rfl ?_
  refine rl_val gw_none (ov_move rfl) rfl ?_
  refine rl_callv gw_none goes55 rfl (fun w1 hp => exhibitAt_c xs _ i _ hGxs (hsxs.ext hp.ext0)) rfl ?_
  refine rl_val gw_none (ov_assign rfl) rfl ?_
  refine rl_nil ?_
  refine at_then ?_
  refine ct_seq ?_
  refine ct_seq ?_
  refine ct_reg ?_
  refine rl_val gw_none (ov_move rfl) rfl ?_
  refine rl_callv gw_none goes43 rfl (fun w1 hp => iAreExhibits_c xs _ _ hGxs (hsxs.ext hp.ext0)) rfl ?_
  refine rl_val gw_none (ov_not rfl) rfl ?_
  refine rl_val gw_none (ov_move rfl) rfl ?_
  refine rl_split (t := 16) rfl (fun g1 => ?_) (fun g1 => ?_)
  ·
    have g1' := g1
    try simp only [Bool.not_eq_true', Bool.not_eq_false', Bool.not_not, decide_eq_true_eq, decide_eq_false_iff_not, beq_iff_eq, beq_eq_false_iff_ne, bne_iff_ne, bne_eq_false_iff_eq, Bool.and_eq_true, Bool.or_eq_true, Bool.and_eq_false_iff, Bool.or_eq_false_iff, inB] at g1'
    refine rl_skip (gw_not rfl rfl g1) rfl ?_
    refine rl_skip (gw_not rfl rfl g1) rfl ?_
    refine rl_val gw_none (ov_pick_t rfl g1 rfl) rfl ?_
    refine rl_nil ?_
    refine at_then ?_
    refine ct_true rfl rfl ?_
    refine ct_seq ?_
    refine ct_reg ?_
    refine rl_val gw_none (ov_assign rfl) rfl ?_
    refine rl_val gw_none (ov_assign rfl) rfl ?_
    refine rl_nil ?_
    refine at_then ?_
    refine ct_ret ?_
    refine at_then_ret ?_
    refine at_ret2 Try.results10 (ro_tmp rfl) (ro_tmp rfl) (fun w1 hp => ?_)
    first | (rw [show kinsR xs i = acc from (selR_yes hB).trans hacc.symm, hB]; exact RetSl.own 999 hp rfl hsl) | (have hb : kinsB xs i = false := (by first | (exact kinsB_no (.inl (by simpa using g1))) | (exact kinsB_no (.inr h1)) | (exact kinsB_noG h1)); rw [show kinsR xs i = [] from selR_no hb, hb]; first | exact RetSl.nil hp.ext0 | exact RetSl.lit 0 hp rfl rfl (by decide))
  ·
    have g1' := g1
    try simp only [Bool.not_eq_true', Bool.not_eq_false', Bool.not_not, decide_eq_true_eq, decide_eq_false_iff_not, beq_iff_eq, beq_eq_false_iff_ne, bne_iff_ne, bne_eq_false_iff_eq, Bool.and_eq_true, Bool.or_eq_true, Bool.and_eq_false_iff, Bool.or_eq_false_iff, inB] at g1'
    refine rl_val (gw_some rfl rfl g1) (ov_move rfl) rfl ?_
    refine rl_val (gw_some rfl rfl g1) (ov_lss rfl rfl) rfl ?_
    refine rl_val gw_none (ov_pick_f rfl g1 rfl) rfl ?_
    refine rl_nil ?_
    refine at_then ?_
    first | refine ct_dec rfl (fun h1 => ?_) (fun h1 => ?_) | refine ct_ndec rfl (fun h1 => ?_) (fun h1 => ?_) | refine ct_eq rfl (fun h1 => ?_) (fun h1 => ?_) | refine ct_ne rfl (fun h1 => ?_) (fun h1 => ?_) | refine ct_not rfl (fun h1 => ?_) (fun h1 => ?_) | refine ct_cond rfl (fun h1 => ?_) (fun h1 => ?_)
    ·
      refine ct_seq ?_
      refine ct_reg ?_
      refine rl_val gw_none (ov_assign rfl) rfl ?_
      refine rl_val gw_none (ov_assign rfl) rfl ?_
      refine rl_nil ?_
      refine at_then ?_
      refine ct_ret ?_
      refine at_then_ret ?_
      refine at_ret2 Try.results10 (ro_tmp rfl) (ro_tmp rfl) (fun w1 hp => ?_)
      first | (rw [show kinsR xs i = acc from (selR_yes hB).trans hacc.symm, hB]; exact RetSl.own 999 hp rfl hsl) | (have hb : kinsB xs i = false := (by first | (exact kinsB_no (.inl (by simpa using g1))) | (exact kinsB_no (.inr h1)) | (exact kinsB_noG h1)); rw [show kinsR xs i = [] from selR_no hb, hb]; first | exact RetSl.nil hp.ext0 | exact RetSl.lit 0 hp rfl rfl (by decide))
    ·
      have hok : exhsB xs = true := by simpa using g1
      have h0 := h1
      have h10 := exhsB_len hok
      have hol : (ageL xs).length = xs.length := ordG_len xs
      have hB : kinsB xs i = true := kinsB_yes hok h0
      obtain ⟨hlt, z, hz, hzi⟩ := findP_ge (show 0 ≤ findP (byXid i) xs by omega)
      obtain ⟨b, o, rfl, hel⟩ := hsxs.elem encExhibit_len (by omega) hlt
      have hcz := hel _ z hz
      have hze := atE_eq hz
      have hkp := fun y => kinP_eq (y := y) hze
      refine ct_skip ?_
      refine at_then ?_
      refine ct_seq ?_
      refine ct_reg ?_
      refine rl_val gw_none (ov_assign rfl) rfl ?_
      refine rl_nil ?_
      refine at_then ?_
      refine ct_seq ?_
      refine ct_seq ?_
      refine ct_reg ?_
      refine rl_val gw_none (ov_move rfl) rfl ?_
      refine rl_callsl (ι := Nat × List Value) (fun i bo => sv bo (ageL xs).length i.1) (fun i => flat encExhibit (ageL xs) ++ i.2) (fun i bo => Sl 7 bo (ageL xs).length i.1 (flat encExhibit (ageL xs)) i.2) goes56 rfl (fun w1 hp => byAge_c xs _ _ hGxs (hsxs.ext hp.ext0) h10) rfl (fun iod bood hsod => ?_)
      refine rl_val gw_none (ov_len Try.underlying27 rfl) rfl ?_
      refine rl_val gw_none (ov_move rfl) rfl ?_
      refine rl_nil ?_
      refine at_then ?_
      refine ct_block ?_
      refine ct_loopR (ι := Nat × Option Nat × Nat × List Value × List Int) (fun p0 => [(7, sv p0.2.1 p0.2.2.2.2.length p0.2.2.1), (23, .int .i64 p0.1)]) [(0, _), (1, _), (4, _), (5, _), (6, _), (21, _), (22, _)] (fun p0 => (p0.2.1, 3, ints p0.2.2.2.2 ++ p0.2.2.2.1) :: _) (fun p0 => p0.1 ≤ (ageL xs).length ∧ p0.2.2.2.2 = selL (kinP (atE xs (findP (byXid i) xs)) i) (fun x => (x : Exhibit).id) (ageL xs) p0.1 ∧ Sl 1 p0.2.1 p0.2.2.2.2.length p0.2.2.1 (ints p0.2.2.2.2) p0.2.2.2.1) (fun p0 => (ageL xs).length - p0.1) ((0, none, 0, [], [])) (Sub.cons rfl (Sub.cons rfl (Sub.cons rfl (Sub.cons rfl (Sub.cons rfl (Sub.cons rfl (Sub.cons rfl Sub.nil))))))) (fun _ hq => hq.nil 3) (by (repeat' (first | exact Sub.nil | refine Sub.cons ?_ ?_)); all_goals (first | rfl | exact lkInt rfl (by omega))) ⟨Nat.zero_le _, selL_zero _ _ _, Sl.nil0 _⟩ (fun p0 hp0 => ?_)
      obtain ⟨k, bo, cap, pad, acc⟩ := p0
      obtain ⟨hk, hacc, hsl⟩ := hp0
      dsimp only at hk hacc hsl
      have hal := selL_len hacc
      refine ct_seq ?_
      refine ct_reg ?_
      refine rl_val gw_none (ov_lss rfl rfl) rfl ?_
      refine rl_nil ?_
      refine at_then ?_
      refine ct_seq ?_
      first | refine ct_dec rfl (fun h2 => ?_) (fun h2 => ?_) | refine ct_ndec rfl (fun h2 => ?_) (fun h2 => ?_) | refine ct_eq rfl (fun h2 => ?_) (fun h2 => ?_) | refine ct_ne rfl (fun h2 => ?_) (fun h2 => ?_) | refine ct_not rfl (fun h2 => ?_) (fun h2 => ?_) | refine ct_cond rfl (fun h2 => ?_) (fun h2 => ?_)
      ·
        have hk2 : k < (ageL xs).length := by omega
        obtain ⟨bo0, rfl⟩ := slSomeG hsod (by omega)
        have hy := getLt hk2
        have hyb := exhsB_mem hok _ (ordG_mem.1 (List.getElem_mem hk2))
        generalize (ageL xs)[k] = y at *
        have hx := hy
        refine ct_skip ?_
        refine at_then ?_
        refine ct_seq ?_
        refine ct_block ?_
        refine ct_seq ?_
        refine ct_reg ?_
        first | refine rl_val gw_none (ov_ix Try.underlying27 sz46 rfl rfl _ rfl (by omega)) rfl ?_ | refine rl_val gw_none (ov_ix Try.underlying27 sz46 rfl rfl (k) (by omega) (by omega)) rfl ?_ | refine rl_val gw_none (ov_ix Try.underlying27 sz46 rfl rfl ((findP (byXid i) xs).toNat) (by omega) (by omega)) rfl ?_
        refine rl_val gw_none (ov_loada 1 ag46 rfl rfl (vs := encExhibit y) rfl (flatCells encExhibit_len hy _)) rfl ?_
        refine rl_alloc ze46 rfl (fun N1 => ?_)
        refine rl_store [] sz46 rfl rfl rfl rfl rfl (Nat.le_of_ble_eq_true rfl) ?_
        refine rl_nil ?_
        refine at_then ?_
        refine ct_seq ?_
        refine ct_dr 12 (by kernel_rfl) (by kernel_rfl) ?_
        refine ql_val gw_none (ov_field fo46_0 rfl) rfl ?_
        first | refine ql_val gw_none (ov_load 0 sc3 rfl rfl rfl) rfl ?_ | refine ql_val gw_none (ov_load 0 sc3 rfl rfl (by assumption)) rfl ?_
        refine ql_val gw_none (ov_move rfl) rfl ?_
        refine ql_val gw_none (ov_neq rfl rfl) rfl ?_
        refine ql_val gw_none (ov_move rfl) rfl ?_
        refine ql_split (t := 31) rfl (fun g2 => ?_) (fun g2 => ?_)
        ·
          have g2' := g2
          try simp only [Bool.not_eq_true', Bool.not_eq_false', Bool.not_not, decide_eq_true_eq, decide_eq_false_iff_not, beq_iff_eq, beq_eq_false_iff_ne, bne_iff_ne, bne_eq_false_iff_eq, Bool.and_eq_true, Bool.or_eq_true, Bool.and_eq_false_iff, Bool.or_eq_false_iff, inB] at g2'
          first | refine ql_val (gw_some rfl rfl g2) (ov_loadall 0 ag46 rfl rfl rfl) rfl ?_ | refine ql_val (gw_some rfl rfl g2) (ov_loadp 0 ag46 rfl rfl (vs := [_, _, _, _, _, _, _]) rfl rfl) rfl ?_ | refine ql_val (gw_some rfl rfl g2) (ov_loada 0 ag46 rfl rfl rfl (by assumption)) rfl ?_
          refine ql_val (gw_some rfl rfl g2) (ov_move rfl) rfl ?_
          refine ql_val (gw_some rfl rfl g2) (ov_move rfl) rfl ?_
          refine ql_val (gw_some rfl rfl g2) (ov_ix Try.underlying27 sz46 rfl rfl ((findP (byXid i) xs).toNat) (by omega) (by omega)) rfl ?_
          first | refine ql_val (gw_some rfl rfl g2) (ov_loadaw ag46 rfl rfl (by assumption)) rfl ?_ | refine ql_val (gw_some rfl rfl g2) (ov_loadall 0 ag46 rfl rfl rfl) rfl ?_ | refine ql_val (gw_some rfl rfl g2) (ov_loadall 1 ag46 rfl rfl rfl) rfl ?_ | refine ql_val (gw_some rfl rfl g2) (ov_loadall 2 ag46 rfl rfl rfl) rfl ?_ | refine ql_val (gw_some rfl rfl g2) (ov_loadall 3 ag46 rfl rfl rfl) rfl ?_
          refine ql_callv (gw_some rfl rfl g2) goes57 rfl (fun w1 hp => isKin_c _ _ _) rfl ?_
          refine ql_val gw_none (ov_pick_t rfl g2 rfl) rfl ?_
          refine ql_nil ?_
          refine rl_nil ?_
          refine at_then ?_
          first | refine ct_dec rfl (fun h3 => ?_) (fun h3 => ?_) | refine ct_ndec rfl (fun h3 => ?_) (fun h3 => ?_) | refine ct_eq rfl (fun h3 => ?_) (fun h3 => ?_) | refine ct_ne rfl (fun h3 => ?_) (fun h3 => ?_) | refine ct_not rfl (fun h3 => ?_) (fun h3 => ?_) | refine ct_cond rfl (fun h3 => ?_) (fun h3 => ?_)
          ·
            refine ct_reg ?_
            refine rl_val gw_none (ov_move rfl) rfl ?_
            refine rl_val gw_none (ov_field fo46_0 rfl) rfl ?_
            first | refine rl_val gw_none (ov_load 0 sc3 rfl rfl rfl) rfl ?_ | refine rl_val gw_none (ov_load 0 sc3 rfl rfl (by assumption)) rfl ?_
            refine rl_bslice Try.underlying24 ze3 sz3 rfl rfl rfl rfl rfl rfl (fun N2 => ?_)
            refine rl_appT (ints) (ints_append) [_, _] (acc := acc) Try.underlying24 ze3 sz3 rfl rfl by3 rfl rfl rfl hsl ([y.id]) rfl (fun w1 hp => hp.sr1 0 rfl rfl (by decide)) (ints_one _) (by unfold maxLen; omega) (by omega) rfl (fun boq1 capq1 padq1 hsq1 => ?_)
            refine rl_val gw_none (ov_assign rfl) rfl ?_
            refine rl_nil ?_
            refine at_block ?_
            refine at_then ?_
            refine ct_reg ?_
            refine rl_val gw_none (ov_add rfl rfl (by omega)) rfl ?_
            refine rl_val gw_none (ov_move rfl) rfl ?_
            refine rl_nil ?_
            have hpx := selL_yes (p := kinP (atE xs (findP (byXid i) xs)) i) (f := fun x => (x : Exhibit).id) hacc hx (by rw [hkp]; simp_all)
            exact at_backR (k + 1, boq1, capq1, padq1, acc ++ [(y : Exhibit).id]) ⟨hk2, hpx, hsq1⟩ (by dsimp only at *; omega) (by (repeat' (first | exact Sub.nil | refine Sub.cons ?_ ?_)); all_goals (first | rfl | exact lkInt rfl (by omega))) (Sub.cons rfl (Sub.cons rfl (Sub.cons rfl (Sub.cons rfl (Sub.cons rfl (Sub.cons rfl (Sub.cons rfl Sub.nil))))))) (fun _ hq => hq.drop.drop)
          ·
            refine ct_skip ?_
            refine at_block ?_
            refine at_then ?_
            refine ct_reg ?_
            refine rl_val gw_none (ov_add rfl rfl (by omega)) rfl ?_
            refine rl_val gw_none (ov_move rfl) rfl ?_
            refine rl_nil ?_
            have hpx := selL_no (p := kinP (atE xs (findP (byXid i) xs)) i) (f := fun x => (x : Exhibit).id) hacc hx (by rw [hkp]; simp_all)
            exact at_backR (k + 1, bo, cap, pad, acc) ⟨hk2, hpx, hsl⟩ (by dsimp only at *; omega) (by (repeat' (first | exact Sub.nil | refine Sub.cons ?_ ?_)); all_goals (first | rfl | exact lkInt rfl (by omega))) (Sub.cons rfl (Sub.cons rfl (Sub.cons rfl (Sub.cons rfl (Sub.cons rfl (Sub.cons rfl (Sub.cons rfl Sub.nil))))))) (fun _ hq => hq.drop)
        ·
          have g2' := g2
          try simp only [Bool.not_eq_true', Bool.not_eq_false', Bool.not_not, decide_eq_true_eq, decide_eq_false_iff_not, beq_iff_eq, beq_eq_false_iff_ne, bne_iff_ne, bne_eq_false_iff_eq, Bool.and_eq_true, Bool.or_eq_true, Bool.and_eq_false_iff, Bool.or_eq_false_iff, inB] at g2'
          refine ql_skip (gw_not rfl rfl g2) rfl ?_
          refine ql_skip (gw_not rfl rfl g2) rfl ?_
          refine ql_skip (gw_not rfl rfl g2) rfl ?_
          refine ql_skip (gw_not rfl rfl g2) rfl ?_
          refine ql_skip (gw_not rfl rfl g2) rfl ?_
          refine ql_skip (gw_not rfl rfl g2) rfl ?_
          refine ql_val gw_none (ov_pick_f rfl g2 rfl) rfl ?_
          refine ql_nil ?_
          refine rl_nil ?_
          refine at_then ?_
          refine ct_false rfl rfl ?_
          refine ct_skip ?_
          refine at_block ?_
          refine at_then ?_
          refine ct_reg ?_
          refine rl_val gw_none (ov_add rfl rfl (by omega)) rfl ?_
          refine rl_val gw_none (ov_move rfl) rfl ?_
          refine rl_nil ?_
          have hpx := selL_no (p := kinP (atE xs (findP (byXid i) xs)) i) (f := fun x => (x : Exhibit).id) hacc hx (by rw [hkp]; simp_all)
          exact at_backR (k + 1, bo, cap, pad, acc) ⟨hk2, hpx, hsl⟩ (by dsimp only at *; omega) (by (repeat' (first | exact Sub.nil | refine Sub.cons ?_ ?_)); all_goals (first | rfl | exact lkInt rfl (by omega))) (Sub.cons rfl (Sub.cons rfl (Sub.cons rfl (Sub.cons rfl (Sub.cons rfl (Sub.cons rfl (Sub.cons rfl Sub.nil))))))) (fun _ hq => hq.drop)
      ·
        have hke : k = (ageL xs).length := by omega
        subst hke
        refine ct_exit ?_
        refine at_then_exit ?_
        refine at_then_exit ?_
        refine at_block_hit ?_
        refine at_then ?_
        refine ct_seq ?_
        refine ct_reg ?_
        refine rl_val gw_none (ov_move rfl) rfl ?_
        refine rl_val gw_none (ov_assign rfl) rfl ?_
        refine rl_val gw_none (ov_assign rfl) rfl ?_
        refine rl_nil ?_
        refine at_then ?_
        refine ct_ret ?_
        refine at_ret2 Try.results10 (ro_tmp rfl) (ro_tmp rfl) (fun w1 hp => ?_)
        first | (rw [show kinsR xs i = acc from (selR_yes hB).trans hacc.symm, hB]; exact RetSl.own 0 hp rfl hsl) | (have hb : kinsB xs i = false := (by first | (exact kinsB_no (.inl (by simpa using g1))) | (exact kinsB_no (.inr h1)) | (exact kinsB_noG h1)); rw [show kinsR xs i = [] from selR_no hb, hb]; first | exact RetSl.nil hp.ext0 | exact RetSl.lit 0 hp rfl rfl (by decide))

theorem sKinsOf_c (xs : List Exhibit) (i : Int) (vxs : Value) (w : World) (hGxs : ∀ y ∈ xs, GExhibit y) (hsxs : SR w 7 vxs xs.length (flat encExhibit xs)) (zi : In64 i) : Calls Try.prog 8 ([vxs, .int .i64 i]).toArray w (fun e w' => RetSl 3 1 (ints (kinsR xs i)) ((kinsR xs i).length) (fun s => .tuple #[s, .bool (kinsB xs i)]) w e w') := by
  obtain ⟨axs, capxs, rfl, hcapxs, hmaxxs⟩ := hsxs.slice
  have hlenxs := hsxs.len_le
  refine calls_ct Try.func8 Try.ntmps8 rfl rfl ?_
  refine ct_seq ?_
  refine ct_reg ?_
  refine rl_val gw_none (ov_assign rfl) rfl ?_
  refine rl_val gw_none (ov_assign rfl) rfl ?_
  refine rl_nil ?_
  refine at_then ?_
  refine ct_seq ?_
  refine ct_reg ?_
  refine rl_bslice Try.underlying24 ze3 sz3 rfl rfl rfl rfl rfl rfl (fun N1 => ?_)
  refine rl_val gw_none (ov_assign rfl) rfl ?_
  refine rl_nil ?_
  refine at_then ?_
  refine ct_seq ?_
  refine ct_reg ?_
  refine rl_val gw_none (ov_move rfl) rfl ?_
  refine rl_val gw_none (ov_move rfl) rfl ?_
  refine rl_callv gw_none goes51 rfl (fun w1 hp => l22Find_c xs _ i _ hGxs (hsxs.ext hp.ext0)) rfl ?_
  refine rl_val gw_none (ov_assign rfl) rfl ?_
  refine rl_nil ?_
  refine at_then ?_
  refine ct_seq ?_
  refine ct_seq ?_
  refine ct_reg ?_
  refine rl_val gw_none (ov_move rfl) rfl ?_
  refine rl_val gw_none (ov_lss rfl rfl) rfl ?_
  refine rl_nil ?_
  refine at_then ?_
  first | refine ct_dec rfl (fun h1 => ?_) (fun h1 => ?_) | refine ct_ndec rfl (fun h1 => ?_) (fun h1 => ?_) | refine ct_eq rfl (fun h1 => ?_) (fun h1 => ?_) | refine ct_ne rfl (fun h1 => ?_) (fun h1 => ?_) | refine ct_not rfl (fun h1 => ?_) (fun h1 => ?_) | refine ct_cond rfl (fun h1 => ?_) (fun h1 => ?_)
  ·
    refine ct_seq ?_
    refine ct_reg ?_
    refine rl_val gw_none (ov_move rfl) rfl ?_
    refine rl_val gw_none (ov_assign rfl) rfl ?_
    refine rl_val gw_none (ov_assign rfl) rfl ?_
    refine rl_nil ?_
    refine at_then ?_
    refine ct_ret ?_
    refine at_then_ret ?_
    refine at_ret2 Try.results8 (ro_tmp rfl) (ro_tmp rfl) (fun w1 hp => ?_)
    first | (rw [show kinsR xs i = acc from (selR_yes hB).trans hacc.symm, hB]; exact RetSl.own 0 hp rfl hsl) | (have hb : kinsB xs i = false := (by first | (exact kinsB_no (.inl (by simpa using g1))) | (exact kinsB_no (.inr h1)) | (exact kinsB_noG h1)); rw [show kinsR xs i = [] from selR_no hb, hb]; first | exact RetSl.nil hp.ext0 | exact RetSl.lit 0 hp rfl rfl (by decide))
  ·
    obtain ⟨hok, h0, hfe⟩ := findG_ge h1
    have h10 := exhsB_len hok
    have hol : (ageL xs).length = xs.length := ordG_len xs
    have hB : kinsB xs i = true := kinsB_yes hok h0
    obtain ⟨hlt, z, hz, hzi⟩ := findP_ge (show 0 ≤ findP (byXid i) xs by omega)
    obtain ⟨b, o, rfl, hel⟩ := hsxs.elem encExhibit_len (by omega) hlt
    have hcz := hel _ z hz
    have hze := atE_eq hz
    have hkp := fun y => kinP_eq (y := y) hze
    refine ct_skip ?_
    refine at_then ?_
    refine ct_seq ?_
    refine ct_reg ?_
    refine rl_val gw_none (ov_move rfl) rfl ?_
    refine rl_callsl (ι := Nat × List Value) (fun i bo => sv bo (ageL xs).length i.1) (fun i => flat encExhibit (ageL xs) ++ i.2) (fun i bo => Sl 7 bo (ageL xs).length i.1 (flat encExhibit (ageL xs)) i.2) goes52 rfl (fun w1 hp => l22Order_c xs _ _ hGxs (hsxs.ext hp.ext0) h10) rfl (fun iod bood hsod => ?_)
    refine rl_val gw_none (ov_assign rfl) rfl ?_
    refine rl_nil ?_
    refine at_then ?_
    refine ct_seq ?_
    refine ct_seq ?_
    refine ct_reg ?_
    refine rl_val gw_none (ov_assign rfl) rfl ?_
    refine rl_nil ?_
    refine at_then ?_
    refine ct_block ?_
    refine ct_loopR (ι := Nat × Option Nat × Nat × List Value × List Int) (fun p0 => [(6, sv p0.2.1 p0.2.2.2.2.length p0.2.2.1), (9, .int .i64 p0.1)]) [(0, _), (1, _), (4, _), (5, _), (7, _), (8, _)] (fun p0 => _ :: (p0.2.1, 3, ints p0.2.2.2.2 ++ p0.2.2.2.1) :: _) (fun p0 => p0.1 ≤ (ageL xs).length ∧ p0.2.2.2.2 = selL (kinP (atE xs (findP (byXid i) xs)) i) (fun x => (x : Exhibit).id) (ageL xs) p0.1 ∧ Sl 1 p0.2.1 p0.2.2.2.2.length p0.2.2.1 (ints p0.2.2.2.2) p0.2.2.2.1) (fun p0 => (ageL xs).length - p0.1) ((0, some N1, 0, [], [])) (Sub.cons rfl (Sub.cons rfl (Sub.cons rfl (Sub.cons rfl (Sub.cons rfl (Sub.cons rfl Sub.nil)))))) (fun _ hq => hq) (by (repeat' (first | exact Sub.nil | refine Sub.cons ?_ ?_)); all_goals (first | rfl | exact lkInt rfl (by omega))) ⟨Nat.zero_le _, selL_zero _ _ _, Sl.lit rfl (Nat.zero_le _)⟩ (fun p0 hp0 => ?_)
    obtain ⟨k, bo, cap, pad, acc⟩ := p0
    obtain ⟨hk, hacc, hsl⟩ := hp0
    dsimp only at hk hacc hsl
    have hal := selL_len hacc
    refine ct_seq ?_
    refine ct_seq ?_
    refine ct_reg ?_
    refine rl_val gw_none (ov_move rfl) rfl ?_
    refine rl_val gw_none (ov_move rfl) rfl ?_
    refine rl_val gw_none (ov_len Try.underlying27 rfl) rfl ?_
    refine rl_val gw_none (ov_lss rfl rfl) rfl ?_
    refine rl_nil ?_
    refine at_then ?_
    first | refine ct_dec rfl (fun h2 => ?_) (fun h2 => ?_) | refine ct_ndec rfl (fun h2 => ?_) (fun h2 => ?_) | refine ct_eq rfl (fun h2 => ?_) (fun h2 => ?_) | refine ct_ne rfl (fun h2 => ?_) (fun h2 => ?_) | refine ct_not rfl (fun h2 => ?_) (fun h2 => ?_) | refine ct_cond rfl (fun h2 => ?_) (fun h2 => ?_)
    ·
      have hk2 : k < (ageL xs).length := by omega
      obtain ⟨bo0, rfl⟩ := slSomeG hsod (by omega)
      have hy := getLt hk2
      have hyb := exhsB_mem hok _ (ordG_mem.1 (List.getElem_mem hk2))
      generalize (ageL xs)[k] = y at *
      have hx := hy
      refine ct_skip ?_
      refine at_then ?_
      refine ct_seq ?_
      refine ct_block ?_
      refine ct_seq ?_
      refine ct_dr 18 (by kernel_rfl) (by kernel_rfl) ?_
      refine ql_val gw_none (ov_move rfl) rfl ?_
      refine ql_val gw_none (ov_move rfl) rfl ?_
      first | refine ql_val gw_none (ov_ix Try.underlying27 sz46 rfl rfl _ rfl (by omega)) rfl ?_ | refine ql_val gw_none (ov_ix Try.underlying27 sz46 rfl rfl (k) (by omega) (by omega)) rfl ?_ | refine ql_val gw_none (ov_ix Try.underlying27 sz46 rfl rfl ((findP (byXid i) xs).toNat) (by omega) (by omega)) rfl ?_
      refine ql_val gw_none (ov_field fo46_0 rfl) rfl ?_
      refine ql_val gw_none (ov_load 0 sc3 rfl rfl (flatGetG encExhibit_len (f := 0) hy rfl _)) rfl ?_
      refine ql_val gw_none (ov_move rfl) rfl ?_
      refine ql_val gw_none (ov_neq rfl rfl) rfl ?_
      refine ql_val gw_none (ov_move rfl) rfl ?_
      refine ql_split (t := 32) rfl (fun g1 => ?_) (fun g1 => ?_)
      ·
        have g1' := g1
        try simp only [Bool.not_eq_true', Bool.not_eq_false', Bool.not_not, decide_eq_true_eq, decide_eq_false_iff_not, beq_iff_eq, beq_eq_false_iff_ne, bne_iff_ne, bne_eq_false_iff_eq, Bool.and_eq_true, Bool.or_eq_true, Bool.and_eq_false_iff, Bool.or_eq_false_iff, inB] at g1'
        refine ql_val (gw_some rfl rfl g1) (ov_move rfl) rfl ?_
        refine ql_val (gw_some rfl rfl g1) (ov_move rfl) rfl ?_
        first | refine ql_val (gw_some rfl rfl g1) (ov_ix Try.underlying27 sz46 rfl rfl _ rfl (by omega)) rfl ?_ | refine ql_val (gw_some rfl rfl g1) (ov_ix Try.underlying27 sz46 rfl rfl (k) (by omega) (by omega)) rfl ?_ | refine ql_val (gw_some rfl rfl g1) (ov_ix Try.underlying27 sz46 rfl rfl ((findP (byXid i) xs).toNat) (by omega) (by omega)) rfl ?_
        refine ql_val (gw_some rfl rfl g1) (ov_loada 0 ag46 rfl rfl (vs := encExhibit y) rfl (flatCells encExhibit_len hy _)) rfl ?_
        refine ql_val (gw_some rfl rfl g1) (ov_move rfl) rfl ?_
        refine ql_val (gw_some rfl rfl g1) (ov_move rfl) rfl ?_
        refine ql_val (gw_some rfl rfl g1) (ov_ix Try.underlying27 sz46 rfl rfl ((findP (byXid i) xs).toNat) (by omega) (by omega)) rfl ?_
        first | refine ql_val (gw_some rfl rfl g1) (ov_loadaw ag46 rfl rfl (by assumption)) rfl ?_ | refine ql_val (gw_some rfl rfl g1) (ov_loadall 0 ag46 rfl rfl rfl) rfl ?_ | refine ql_val (gw_some rfl rfl g1) (ov_loadall 1 ag46 rfl rfl rfl) rfl ?_ | refine ql_val (gw_some rfl rfl g1) (ov_loadall 2 ag46 rfl rfl rfl) rfl ?_ | refine ql_val (gw_some rfl rfl g1) (ov_loadall 3 ag46 rfl rfl rfl) rfl ?_
        refine ql_callv (gw_some rfl rfl g1) goes53 rfl (fun w1 hp => l22Kin_c _ _ _) rfl ?_
        refine ql_val gw_none (ov_pick_t rfl g1 rfl) rfl ?_
        refine ql_nil ?_
        refine rl_nil ?_
        refine at_then ?_
        first | refine ct_dec rfl (fun h3 => ?_) (fun h3 => ?_) | refine ct_ndec rfl (fun h3 => ?_) (fun h3 => ?_) | refine ct_eq rfl (fun h3 => ?_) (fun h3 => ?_) | refine ct_ne rfl (fun h3 => ?_) (fun h3 => ?_) | refine ct_not rfl (fun h3 => ?_) (fun h3 => ?_) | refine ct_cond rfl (fun h3 => ?_) (fun h3 => ?_)
        ·
          refine ct_reg ?_
          refine rl_val gw_none (ov_move rfl) rfl ?_
          refine rl_val gw_none (ov_move rfl) rfl ?_
          refine rl_val gw_none (ov_move rfl) rfl ?_
          first | refine rl_val gw_none (ov_ix Try.underlying27 sz46 rfl rfl _ rfl (by omega)) rfl ?_ | refine rl_val gw_none (ov_ix Try.underlying27 sz46 rfl rfl (k) (by omega) (by omega)) rfl ?_ | refine rl_val gw_none (ov_ix Try.underlying27 sz46 rfl rfl ((findP (byXid i) xs).toNat) (by omega) (by omega)) rfl ?_
          refine rl_val gw_none (ov_field fo46_0 rfl) rfl ?_
          refine rl_val gw_none (ov_load 0 sc3 rfl rfl (flatGetG encExhibit_len (f := 0) hy rfl _)) rfl ?_
          refine rl_bslice Try.underlying24 ze3 sz3 rfl rfl rfl rfl rfl rfl (fun N2 => ?_)
          refine rl_appT (ints) (ints_append) [_, _] (acc := acc) Try.underlying24 ze3 sz3 rfl rfl by3 rfl rfl rfl hsl ([y.id]) rfl (fun w1 hp => hp.sr1 0 rfl rfl (by decide)) (ints_one _) (by unfold maxLen; omega) (by omega) rfl (fun boq1 capq1 padq1 hsq1 => ?_)
          refine rl_val gw_none (ov_assign rfl) rfl ?_
          refine rl_nil ?_
          refine at_block ?_
          refine at_then ?_
          refine ct_reg ?_
          refine rl_val gw_none (ov_move rfl) rfl ?_
          refine rl_val gw_none (ov_add rfl rfl (by omega)) rfl ?_
          refine rl_val gw_none (ov_assign rfl) rfl ?_
          refine rl_nil ?_
          have hpx := selL_yes (p := kinP (atE xs (findP (byXid i) xs)) i) (f := fun x => (x : Exhibit).id) hacc hx (by rw [hkp]; simp_all)
          exact at_backR (k + 1, boq1, capq1, padq1, acc ++ [(y : Exhibit).id]) ⟨hk2, hpx, hsq1⟩ (by dsimp only at *; omega) (by (repeat' (first | exact Sub.nil | refine Sub.cons ?_ ?_)); all_goals (first | rfl | exact lkInt rfl (by omega))) (Sub.cons rfl (Sub.cons rfl (Sub.cons rfl (Sub.cons rfl (Sub.cons rfl (Sub.cons rfl Sub.nil)))))) (fun _ hq => hq.drop)
        ·
          refine ct_skip ?_
          refine at_block ?_
          refine at_then ?_
          refine ct_reg ?_
          refine rl_val gw_none (ov_move rfl) rfl ?_
          refine rl_val gw_none (ov_add rfl rfl (by omega)) rfl ?_
          refine rl_val gw_none (ov_assign rfl) rfl ?_
          refine rl_nil ?_
          have hpx := selL_no (p := kinP (atE xs (findP (byXid i) xs)) i) (f := fun x => (x : Exhibit).id) hacc hx (by rw [hkp]; simp_all)
          exact at_backR (k + 1, bo, cap, pad, acc) ⟨hk2, hpx, hsl⟩ (by dsimp only at *; omega) (by (repeat' (first | exact Sub.nil | refine Sub.cons ?_ ?_)); all_goals (first | rfl | exact lkInt rfl (by omega))) (Sub.cons rfl (Sub.cons rfl (Sub.cons rfl (Sub.cons rfl (Sub.cons rfl (Sub.cons rfl Sub.nil)))))) (fun _ hq => hq)
      ·
        have g1' := g1
        try simp only [Bool.not_eq_true', Bool.not_eq_false', Bool.not_not, decide_eq_true_eq, decide_eq_false_iff_not, beq_iff_eq, beq_eq_false_iff_ne, bne_iff_ne, bne_eq_false_iff_eq, Bool.and_eq_true, Bool.or_eq_true, Bool.and_eq_false_iff, Bool.or_eq_false_iff, inB] at g1'
        refine ql_skip (gw_not rfl rfl g1) rfl ?_
        refine ql_skip (gw_not rfl rfl g1) rfl ?_
        refine ql_skip (gw_not rfl rfl g1) rfl ?_
        refine ql_skip (gw_not rfl rfl g1) rfl ?_
        refine ql_skip (gw_not rfl rfl g1) rfl ?_
        refine ql_skip (gw_not rfl rfl g1) rfl ?_
        refine ql_skip (gw_not rfl rfl g1) rfl ?_
        refine ql_skip (gw_not rfl rfl g1) rfl ?_
        refine ql_skip (gw_not rfl rfl g1) rfl ?_
        refine ql_val gw_none (ov_pick_f rfl g1 rfl) rfl ?_
        refine ql_nil ?_
        refine rl_nil ?_
        refine at_then ?_
        refine ct_false rfl rfl ?_
        refine ct_skip ?_
        refine at_block ?_
        refine at_then ?_
        refine ct_reg ?_
        refine rl_val gw_none (ov_move rfl) rfl ?_
        refine rl_val gw_none (ov_add rfl rfl (by omega)) rfl ?_
        refine rl_val gw_none (ov_assign rfl) rfl ?_
        refine rl_nil ?_
        have hpx := selL_no (p := kinP (atE xs (findP (byXid i) xs)) i) (f := fun x => (x : Exhibit).id) hacc hx (by rw [hkp]; simp_all)
        exact at_backR (k + 1, bo, cap, pad, acc) ⟨hk2, hpx, hsl⟩ (by dsimp only at *; omega) (by (repeat' (first | exact Sub.nil | refine Sub.cons ?_ ?_)); all_goals (first | rfl | exact lkInt rfl (by omega))) (Sub.cons rfl (Sub.cons rfl (Sub.cons rfl (Sub.cons rfl (Sub.cons rfl (Sub.cons rfl Sub.nil)))))) (fun _ hq => hq)
    ·
      have hke : k = (ageL xs).length := by omega
      subst hke
      refine ct_exit ?_
      refine at_then_exit ?_
      refine at_then_exit ?_
      refine at_block_hit ?_
      refine at_then ?_
      refine ct_seq ?_
      refine ct_reg ?_
      refine rl_val gw_none (ov_move rfl) rfl ?_
      refine rl_val gw_none (ov_assign rfl) rfl ?_
      refine rl_val gw_none (ov_assign rfl) rfl ?_
      refine rl_nil ?_
      refine at_then ?_
      refine ct_ret ?_
      refine at_ret2 Try.results8 (ro_tmp rfl) (ro_tmp rfl) (fun w1 hp => ?_)
      first | (rw [show kinsR xs i = acc from (selR_yes hB).trans hacc.symm, hB]; exact RetSl.own 1 hp rfl hsl) | (have hb : kinsB xs i = false := (by first | (exact kinsB_no (.inl (by simpa using g1))) | (exact kinsB_no (.inr h1)) | (exact kinsB_noG h1)); rw [show kinsR xs i = [] from selR_no hb, hb]; first | exact RetSl.nil hp.ext0 | exact RetSl.lit 0 hp rfl rfl (by decide))
end Go.Proofs.Ytfelindekikaeaa
