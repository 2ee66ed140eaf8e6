import Derived.Test.YtaajkamfeaafpaaTj
import Derived.Test.YtaajkamfeaafpaaRb
import Derived.Test.YtaajkamfeaafpaaKn
import Derived.KernelRfl
set_option linter.unusedVariables false
set_option linter.unusedSimpArgs false
namespace Go.Proofs.Ytaajkamfeaafpaa
open Go Go.RowKit K
theorem l23Order_c (ws : List Wood) (xs : List Repair) (vws vxs : Value) (w : World) (hGws : ∀ y ∈ ws, GWood y) (hsws : SR w 3 vws ws.length (flat encWood ws)) (hGxs : ∀ y ∈ xs, GRepair y) (hsxs : SR w 5 vxs xs.length (flat encRepair xs)) (hok : repairsB ws xs = true) : Calls Try.prog 66 ([vws, vxs]).toArray w (fun e w' => RetSl 53 5 (flat encRepair (ordL ws xs)) (ordL ws xs).length (fun s => s) w e w') := by
  obtain ⟨a, cap, rfl, hcap, hmax⟩ := hsxs.slice
  have hlen := hsxs.len_le
  obtain ⟨aw, capw, rfl, hcapw, hmaxw⟩ := hsws.slice
  have hlenw := hsws.len_le
  have hw := (repairs_woods hok).1
  have hx10 := (repairs_woods hok).2
  refine calls_ct Try.func66 Try.ntmps66 rfl rfl ?_
  refine ct_seq ?_
  refine ct_reg ?_
  refine rl_val gw_none (ov_assign rfl) rfl ?_
  refine rl_nil ?_
  refine at_then ?_
  refine ct_seq ?_
  refine ct_reg ?_
  refine rl_bslice Try.underlying37 ze53 sz53 rfl rfl rfl rfl rfl rfl (fun N1 => ?_)
  refine rl_val gw_none (ov_assign rfl) rfl ?_
  refine rl_nil ?_
  refine at_then ?_
  refine ct_seq ?_
  refine ct_seq ?_
  refine ct_reg ?_
  refine rl_val gw_none (ov_assign rfl) rfl ?_
  refine rl_nil ?_
  refine at_then ?_
  refine ct_block ?_
  refine ct_loopR (ι := Nat × Option Nat × Nat × List Value) (fun p0 => [(5, sv p0.2.1 (ordL ws (xs.take p0.1)).length p0.2.2.1), (6, .int .i64 p0.1)]) [(0, _), (1, _), (4, _)] (fun p0 => [(p0.2.1, 53, flat encRepair (ordL ws (xs.take p0.1)) ++ p0.2.2.2)]) (fun p0 => p0.1 ≤ xs.length ∧ Sl 5 p0.2.1 (ordL ws (xs.take p0.1)).length p0.2.2.1 (flat encRepair (ordL ws (xs.take p0.1))) p0.2.2.2) (fun p0 => xs.length - p0.1) ((0, some N1, 0, [])) (Sub.cons rfl (Sub.cons rfl (Sub.cons rfl Sub.nil))) (fun _ hp => (Hp.sub (Hp.pull hp 0 rfl) (List.sublist_append_left [_] _))) (by (repeat' (first | exact Sub.nil | refine Sub.cons ?_ ?_)); all_goals (first | rfl | exact lkInt rfl (by omega))) ⟨Nat.zero_le _, Sl.lit rfl (Nat.zero_le _)⟩ (fun p0 hp0 => ?_)
  obtain ⟨k, bo, cap, pad⟩ := p0
  obtain ⟨hk, hsl⟩ := hp0
  dsimp only at hk hsl
  try dsimp only
  have hcl := hsl.le
  refine ct_seq ?_
  refine ct_seq ?_
  refine ct_reg ?_
  refine rl_val gw_none (ov_move rfl) rfl ?_
  refine rl_val gw_none (ov_move rfl) rfl ?_
  refine rl_val gw_none (ov_len Try.underlying37 rfl) rfl ?_
  refine rl_val gw_none (ov_lss rfl rfl) rfl ?_
  refine rl_nil ?_
  refine at_then ?_
  first | refine ct_dec rfl (fun h1 => ?_) (fun h1 => ?_) | refine ct_ndec rfl (fun h1 => ?_) (fun h1 => ?_) | refine ct_eq rfl (fun h1 => ?_) (fun h1 => ?_) | refine ct_ne rfl (fun h1 => ?_) (fun h1 => ?_) | refine ct_not rfl (fun h1 => ?_) (fun h1 => ?_) | refine ct_cond rfl (fun h1 => ?_) (fun h1 => ?_)
  ·
    have hk2 : k < xs.length := by omega
    obtain ⟨b, o, rfl, hel⟩ := hsxs.elem encRepair_len (by omega) hk2
    have hx := getLt hk2
    have hrb := repairB_at hok hx
    generalize xs[k] = r at *
    have hcx := hel k r hx
    obtain ⟨c0, c1, c2, c3, c4, _⟩ := hel k r hx
    have hon : (ordL ws (xs.take k)).length = k := by rw [ordL_len, List.length_take]; omega
    have hst := ordL_snoc (ws := ws) hx
    have hmr := minR_bound hw hrb
    refine ct_skip ?_
    refine at_then ?_
    refine ct_seq ?_
    refine ct_block ?_
    refine ct_seq ?_
    refine ct_reg ?_
    refine rl_val gw_none (ov_move rfl) rfl ?_
    refine rl_val gw_none (ov_len Try.underlying37 rfl) rfl ?_
    refine rl_val gw_none (ov_move rfl) rfl ?_
    refine rl_val gw_none (ov_move rfl) rfl ?_
    refine rl_val gw_none (ov_move rfl) rfl ?_
    first | refine rl_val gw_none (ov_ix Try.underlying37 sz53 rfl rfl _ rfl (by omega)) rfl ?_ | refine rl_val gw_none (ov_ix Try.underlying37 sz53 rfl rfl (p) (by omega) (by omega)) rfl ?_ | refine rl_val gw_none (ov_ix Try.underlying37 sz53 rfl rfl (k) (by omega) (by omega)) rfl ?_
    first | refine rl_val gw_none (ov_loadaw ag53 rfl rfl (by assumption)) rfl ?_ | refine rl_val gw_none (ov_loadall 0 ag53 rfl rfl rfl) rfl ?_ | refine rl_val gw_none (ov_loadall 1 ag53 rfl rfl rfl) rfl ?_ | refine rl_val gw_none (ov_loadall 2 ag53 rfl rfl rfl) rfl ?_ | refine rl_val gw_none (ov_loadall 3 ag53 rfl rfl rfl) rfl ?_
    refine rl_callv gw_none goes84 rfl (fun w1 hp => l23Minutes_c ws r _ _ (hsws.ext hp.ext0) hw hrb) rfl ?_
    refine rl_val gw_none (ov_assign rfl) rfl ?_
    refine rl_val gw_none (ov_assign rfl) rfl ?_
    refine rl_nil ?_
    refine at_then ?_
    refine ct_seq ?_
    refine ct_block ?_
    refine ct_loopR (ι := Nat) (fun q => [(7, .int .i64 q)]) [(0, _), (1, _), (4, _), (5, _), (6, _), (8, _)] (fun _ => _) (fun q => q ≤ (ordL ws (xs.take k)).length ∧ insP ws (ordL ws (xs.take k)) r q = insP ws (ordL ws (xs.take k)) r (ordL ws (xs.take k)).length) (fun q => q) ((ordL ws (xs.take k)).length) (Sub.cons rfl (Sub.cons rfl (Sub.cons rfl (Sub.cons rfl (Sub.cons rfl (Sub.cons rfl Sub.nil)))))) (fun _ hq => hq) (by (repeat' (first | exact Sub.nil | refine Sub.cons ?_ ?_)); all_goals (first | rfl | exact lkInt rfl (by omega))) ⟨Nat.le_refl _, rfl⟩ (fun q hq => ?_)
    obtain ⟨hql, hins⟩ := hq
    refine ct_seq ?_
    refine ct_seq ?_
    refine ct_dr 41 (by kernel_rfl) (by kernel_rfl) ?_
    refine ql_val gw_none (ov_move rfl) rfl ?_
    refine ql_val gw_none (ov_gtr rfl rfl) rfl ?_
    refine ql_val gw_none (ov_move rfl) rfl ?_
    refine ql_split (t := 26) rfl (fun g1 => ?_) (fun g1 => ?_)
    ·
      have hq0 : 0 < q := by simpa using g1
      obtain ⟨p, rfl⟩ : ∃ p, q = p + 1 := ⟨q - 1, by omega⟩
      have hp2 : p < (ordL ws (xs.take k)).length := by omega
      obtain ⟨bz, rfl⟩ := slSome hsl (by omega)
      have hy := getLt hp2
      have hym := ordL_mem (List.getElem_mem hp2)
      generalize (ordL ws (xs.take k))[p] = y at *
      have hyb : repairB ws.length y = true := by
        obtain ⟨j, hj⟩ := List.mem_iff_getElem?.1 (List.mem_of_mem_take hym)
        exact repairB_at hok hj
      have hmy := minR_bound hw hyb
      have y4 := flatGet encRepair_len (f := 4) hy rfl pad
      refine ql_val (gw_some rfl rfl g1) (ov_move rfl) rfl ?_
      refine ql_val (gw_some rfl rfl g1) (ov_move rfl) rfl ?_
      refine ql_val (gw_some rfl rfl g1) (ov_sub rfl rfl (by omega)) rfl ?_
      first | refine ql_val (gw_some rfl rfl g1) (ov_ix Try.underlying37 sz53 rfl rfl _ rfl (by omega)) rfl ?_ | refine ql_val (gw_some rfl rfl g1) (ov_ix Try.underlying37 sz53 rfl rfl (p) (by omega) (by omega)) rfl ?_ | refine ql_val (gw_some rfl rfl g1) (ov_ix Try.underlying37 sz53 rfl rfl (k) (by omega) (by omega)) rfl ?_
      refine ql_val (gw_some rfl rfl g1) (ov_field fo53_4 rfl) rfl ?_
      first | refine ql_val (gw_some rfl rfl g1) (ov_load 0 sc3 rfl rfl rfl) rfl ?_ | refine ql_val (gw_some rfl rfl g1) (ov_load 0 sc3 rfl rfl (by assumption)) rfl ?_
      refine ql_val (gw_some rfl rfl g1) (ov_move rfl) rfl ?_
      refine ql_val (gw_some rfl rfl g1) (ov_move rfl) rfl ?_
      first | refine ql_val (gw_some rfl rfl g1) (ov_ix Try.underlying37 sz53 rfl rfl _ rfl (by omega)) rfl ?_ | refine ql_val (gw_some rfl rfl g1) (ov_ix Try.underlying37 sz53 rfl rfl (p) (by omega) (by omega)) rfl ?_ | refine ql_val (gw_some rfl rfl g1) (ov_ix Try.underlying37 sz53 rfl rfl (k) (by omega) (by omega)) rfl ?_
      refine ql_val (gw_some rfl rfl g1) (ov_field fo53_4 rfl) rfl ?_
      first | refine ql_val (gw_some rfl rfl g1) (ov_load 0 sc3 rfl rfl rfl) rfl ?_ | refine ql_val (gw_some rfl rfl g1) (ov_load 1 sc3 rfl rfl rfl) rfl ?_ | refine ql_val (gw_some rfl rfl g1) (ov_load 2 sc3 rfl rfl rfl) rfl ?_ | refine ql_val (gw_some rfl rfl g1) (ov_load 3 sc3 rfl rfl rfl) rfl ?_ | refine ql_val (gw_some rfl rfl g1) (ov_loadw sc3 rfl (by assumption)) rfl ?_ | refine ql_val (gw_some rfl rfl g1) (ov_load 0 sc3 rfl rfl (by assumption)) rfl ?_ | refine ql_val (gw_some rfl rfl g1) (ov_load 1 sc3 rfl rfl (by assumption)) rfl ?_ | refine ql_val (gw_some rfl rfl g1) (ov_load 2 sc3 rfl rfl (by assumption)) rfl ?_ | refine ql_val (gw_some rfl rfl g1) (ov_load 3 sc3 rfl rfl (by assumption)) rfl ?_
      refine ql_val (gw_some rfl rfl g1) (ov_gtr rfl rfl) rfl ?_
      refine ql_val (gw_some rfl rfl g1) (ov_move rfl) rfl ?_
      refine ql_split (t := 39) rfl (fun g2 => ?_) (fun g2 => ?_)
      ·
        have g2' := g2
        try simp only [Bool.not_eq_true', Bool.not_eq_false', Bool.not_not, decide_eq_true_eq, decide_eq_false_iff_not, beq_iff_eq, beq_eq_false_iff_ne, bne_iff_ne, bne_eq_false_iff_eq, Bool.and_eq_true, Bool.or_eq_true, Bool.and_eq_false_iff, Bool.or_eq_false_iff, inB] at g2'
        refine ql_skip (gw_not rfl rfl g2) rfl ?_
        refine ql_skip (gw_not rfl rfl g2) rfl ?_
        refine ql_skip (gw_not rfl rfl g2) rfl ?_
        refine ql_skip (gw_not rfl rfl g2) rfl ?_
        refine ql_skip (gw_not rfl rfl g2) rfl ?_
        refine ql_skip (gw_not rfl rfl g2) rfl ?_
        refine ql_skip (gw_not rfl rfl g2) rfl ?_
        refine ql_skip (gw_not rfl rfl g2) rfl ?_
        refine ql_skip (gw_not rfl rfl g2) rfl ?_
        refine ql_skip (gw_not rfl rfl g2) rfl ?_
        refine ql_skip (gw_not rfl rfl g2) rfl ?_
        refine ql_skip (gw_not rfl rfl g2) rfl ?_
        refine ql_skip (gw_not rfl rfl g2) rfl ?_
        refine ql_skip (gw_undef rfl rfl) rfl ?_
        refine ql_skip (gw_undef rfl rfl) rfl ?_
        refine ql_skip (gw_undef rfl rfl) rfl ?_
        refine ql_skip (gw_undef rfl rfl) rfl ?_
        refine ql_skip (gw_undef rfl rfl) rfl ?_
        refine ql_skip (gw_undef rfl rfl) rfl ?_
        refine ql_skip (gw_undef rfl rfl) rfl ?_
        refine ql_skip (gw_undef rfl rfl) rfl ?_
        refine ql_skip (gw_undef rfl rfl) rfl ?_
        refine ql_skip (gw_not rfl rfl g2) rfl ?_
        refine ql_val (gw_some rfl rfl g1) (ov_pick_t rfl g2 rfl) rfl ?_
        refine ql_val gw_none (ov_pick_t rfl g1 rfl) rfl ?_
        refine ql_nil ?_
        refine rl_nil ?_
        refine at_then ?_
        refine ct_true rfl rfl ?_
        refine ct_skip ?_
        refine at_then ?_
        refine ct_block ?_
        refine ct_reg ?_
        refine rl_val gw_none (ov_move rfl) rfl ?_
        refine rl_val gw_none (ov_sub rfl rfl (by omega)) rfl ?_
        refine rl_val gw_none (ov_assign rfl) rfl ?_
        refine rl_nil ?_
        refine at_block ?_
        have hg : gtB ws y r = true := by unfold gtB; first | (rw [g2]; rfl) | (rw [g2, g3, decide_eq_true h2]; rfl)
        have hpy := insP_yes hy hg
        exact at_backR p ⟨by omega, by rw [← hpy]; exact hins⟩ (by first | exact True.intro | omega | (dsimp only; omega) | (dsimp only at *; omega)) (by (repeat' (first | exact Sub.nil | refine Sub.cons ?_ ?_)); all_goals (first | rfl | exact lkInt rfl (by omega))) (Sub.cons rfl (Sub.cons rfl (Sub.cons rfl (Sub.cons rfl (Sub.cons rfl (Sub.cons rfl Sub.nil)))))) (fun _ hq => hq)
      ·
        have g2' := g2
        try simp only [Bool.not_eq_true', Bool.not_eq_false', Bool.not_not, decide_eq_true_eq, decide_eq_false_iff_not, beq_iff_eq, beq_eq_false_iff_ne, bne_iff_ne, bne_eq_false_iff_eq, Bool.and_eq_true, Bool.or_eq_true, Bool.and_eq_false_iff, Bool.or_eq_false_iff, inB] at g2'
        refine ql_val (gw_some rfl rfl g2) (ov_move rfl) rfl ?_
        refine ql_val (gw_some rfl rfl g2) (ov_move rfl) rfl ?_
        refine ql_val (gw_some rfl rfl g2) (ov_sub rfl rfl (by omega)) rfl ?_
        first | refine ql_val (gw_some rfl rfl g2) (ov_ix Try.underlying37 sz53 rfl rfl _ rfl (by omega)) rfl ?_ | refine ql_val (gw_some rfl rfl g2) (ov_ix Try.underlying37 sz53 rfl rfl (p) (by omega) (by omega)) rfl ?_ | refine ql_val (gw_some rfl rfl g2) (ov_ix Try.underlying37 sz53 rfl rfl (k) (by omega) (by omega)) rfl ?_
        refine ql_val (gw_some rfl rfl g2) (ov_field fo53_4 rfl) rfl ?_
        first | refine ql_val (gw_some rfl rfl g2) (ov_load 0 sc3 rfl rfl rfl) rfl ?_ | refine ql_val (gw_some rfl rfl g2) (ov_load 0 sc3 rfl rfl (by assumption)) rfl ?_
        refine ql_val (gw_some rfl rfl g2) (ov_move rfl) rfl ?_
        refine ql_val (gw_some rfl rfl g2) (ov_move rfl) rfl ?_
        first | refine ql_val (gw_some rfl rfl g2) (ov_ix Try.underlying37 sz53 rfl rfl _ rfl (by omega)) rfl ?_ | refine ql_val (gw_some rfl rfl g2) (ov_ix Try.underlying37 sz53 rfl rfl (p) (by omega) (by omega)) rfl ?_ | refine ql_val (gw_some rfl rfl g2) (ov_ix Try.underlying37 sz53 rfl rfl (k) (by omega) (by omega)) rfl ?_
        refine ql_val (gw_some rfl rfl g2) (ov_field fo53_4 rfl) rfl ?_
        first | refine ql_val (gw_some rfl rfl g2) (ov_load 0 sc3 rfl rfl rfl) rfl ?_ | refine ql_val (gw_some rfl rfl g2) (ov_load 1 sc3 rfl rfl rfl) rfl ?_ | refine ql_val (gw_some rfl rfl g2) (ov_load 2 sc3 rfl rfl rfl) rfl ?_ | refine ql_val (gw_some rfl rfl g2) (ov_load 3 sc3 rfl rfl rfl) rfl ?_ | refine ql_val (gw_some rfl rfl g2) (ov_loadw sc3 rfl (by assumption)) rfl ?_ | refine ql_val (gw_some rfl rfl g2) (ov_load 0 sc3 rfl rfl (by assumption)) rfl ?_ | refine ql_val (gw_some rfl rfl g2) (ov_load 1 sc3 rfl rfl (by assumption)) rfl ?_ | refine ql_val (gw_some rfl rfl g2) (ov_load 2 sc3 rfl rfl (by assumption)) rfl ?_ | refine ql_val (gw_some rfl rfl g2) (ov_load 3 sc3 rfl rfl (by assumption)) rfl ?_
        refine ql_val (gw_some rfl rfl g2) (ov_eql rfl rfl) rfl ?_
        refine ql_val (gw_some rfl rfl g2) (ov_move rfl) rfl ?_
        refine ql_split (t := 52) rfl (fun g3 => ?_) (fun g3 => ?_)
        ·
          have g3' := g3
          try simp only [Bool.not_eq_true', Bool.not_eq_false', Bool.not_not, decide_eq_true_eq, decide_eq_false_iff_not, beq_iff_eq, beq_eq_false_iff_ne, bne_iff_ne, bne_eq_false_iff_eq, Bool.and_eq_true, Bool.or_eq_true, Bool.and_eq_false_iff, Bool.or_eq_false_iff, inB] at g3'
          refine ql_val (gw_some rfl rfl g3) (ov_move rfl) rfl ?_
          refine ql_val (gw_some rfl rfl g3) (ov_move rfl) rfl ?_
          refine ql_val (gw_some rfl rfl g3) (ov_move rfl) rfl ?_
          refine ql_val (gw_some rfl rfl g3) (ov_sub rfl rfl (by omega)) rfl ?_
          first | refine ql_val (gw_some rfl rfl g3) (ov_ix Try.underlying37 sz53 rfl rfl _ rfl (by omega)) rfl ?_ | refine ql_val (gw_some rfl rfl g3) (ov_ix Try.underlying37 sz53 rfl rfl (p) (by omega) (by omega)) rfl ?_ | refine ql_val (gw_some rfl rfl g3) (ov_ix Try.underlying37 sz53 rfl rfl (k) (by omega) (by omega)) rfl ?_
          refine ql_val (gw_some rfl rfl g3) (ov_loada 0 ag53 rfl rfl (vs := encRepair y) rfl (repCells hy _)) rfl ?_
          refine ql_callv (gw_some rfl rfl g3) goes84 rfl (fun w1 hp => l23Minutes_c ws y _ _ (hsws.ext hp.ext0) hw hyb) rfl ?_
          refine ql_val (gw_some rfl rfl g3) (ov_move rfl) rfl ?_
          refine ql_val (gw_some rfl rfl g3) (ov_gtr rfl rfl) rfl ?_
          refine ql_val (gw_some rfl rfl g2) (ov_pick_t rfl g3 rfl) rfl ?_
          refine ql_val (gw_some rfl rfl g1) (ov_pick_f rfl g2 rfl) rfl ?_
          refine ql_val gw_none (ov_pick_t rfl g1 rfl) rfl ?_
          refine ql_nil ?_
          refine rl_nil ?_
          refine at_then ?_
          first | refine ct_dec rfl (fun h2 => ?_) (fun h2 => ?_) | refine ct_ndec rfl (fun h2 => ?_) (fun h2 => ?_) | refine ct_eq rfl (fun h2 => ?_) (fun h2 => ?_) | refine ct_ne rfl (fun h2 => ?_) (fun h2 => ?_) | refine ct_not rfl (fun h2 => ?_) (fun h2 => ?_) | refine ct_cond rfl (fun h2 => ?_) (fun h2 => ?_)
          ·
            refine ct_skip ?_
            refine at_then ?_
            refine ct_block ?_
            refine ct_reg ?_
            refine rl_val gw_none (ov_move rfl) rfl ?_
            refine rl_val gw_none (ov_sub rfl rfl (by omega)) rfl ?_
            refine rl_val gw_none (ov_assign rfl) rfl ?_
            refine rl_nil ?_
            refine at_block ?_
            have hg : gtB ws y r = true := by unfold gtB; first | (rw [g2]; rfl) | (rw [g2, g3, decide_eq_true h2]; rfl)
            have hpy := insP_yes hy hg
            exact at_backR p ⟨by omega, by rw [← hpy]; exact hins⟩ (by first | exact True.intro | omega | (dsimp only; omega) | (dsimp only at *; omega)) (by (repeat' (first | exact Sub.nil | refine Sub.cons ?_ ?_)); all_goals (first | rfl | exact lkInt rfl (by omega))) (Sub.cons rfl (Sub.cons rfl (Sub.cons rfl (Sub.cons rfl (Sub.cons rfl (Sub.cons rfl Sub.nil)))))) (fun _ hq => hq)
          ·
            have hg : gtB ws y r = false := by unfold gtB; first | (rw [g2, g3, decide_eq_false (by first | exact h2 | omega)]; rfl) | (rw [g2, g3]; rfl)
            obtain ⟨z, hz⟩ : ∃ z, z = insP ws (ordL ws (xs.take k)) r (ordL ws (xs.take k)).length := ⟨_, rfl⟩
            have hze : p + 1 = z := by rw [hz, ← hins, insP_no hy hg]
            have hzl := insP_le ws (ordL ws (xs.take k)) r (ordL ws (xs.take k)).length
            refine ct_exit ?_
            refine at_then_exit ?_
            refine at_then_exit ?_
            refine at_block_hit ?_
            refine at_then ?_
            refine ct_fl 14 [1, 2, 3, 5, 6, 7, 8, 11, 12, 13, 0, 4, 9, 10, 14, 15] ⟨10, [11, 13], [11, 13], [10, 12], [], []⟩ (fun q => if q = 10 then (⟨53, [], fun N => sv (some N) 0 0⟩ : Soft) else if q = 12 then (⟨53, (encRepair r), fun N => sv (some N) 1 1⟩ : Soft) else ⟨0, [], fun _ => undef⟩) (by kernel_rfl) (by kernel_rfl) ?_
            refine qf_step rfl ?_
            refine qg_val rfl gw_none (fun _ => (ov_move rfl)) rfl ?_
            refine qf_step rfl ?_
            refine qg_val rfl gw_none (fun _ => (ov_move rfl)) rfl ?_
            refine qf_step rfl ?_
            refine qg_val rfl gw_none (fun _ => (ov_subh Try.underlying37 sz53 rfl rfl (z) (by omega) (by omega))) rfl ?_
            refine qf_step rfl ?_
            refine qg_val rfl gw_none (fun _ => (ov_move rfl)) rfl ?_
            refine qf_step rfl ?_
            refine qg_val rfl gw_none (fun _ => (ov_move rfl)) rfl ?_
            refine qf_step rfl ?_
            first | refine qg_val rfl gw_none (fun _ => (ov_ix Try.underlying37 sz53 rfl rfl _ rfl (by omega))) rfl ?_ | refine qg_val rfl gw_none (fun _ => (ov_ix Try.underlying37 sz53 rfl rfl (p) (by omega) (by omega))) rfl ?_ | refine qg_val rfl gw_none (fun _ => (ov_ix Try.underlying37 sz53 rfl rfl (k) (by omega) (by omega))) rfl ?_
            refine qf_step rfl ?_
            first | refine qg_val rfl gw_none (fun _ => (ov_loadaw ag53 rfl rfl (by assumption))) rfl ?_ | refine qg_val rfl gw_none (fun _ => (ov_loadall 0 ag53 rfl rfl rfl)) rfl ?_ | refine qg_val rfl gw_none (fun _ => (ov_loadall 1 ag53 rfl rfl rfl)) rfl ?_ | refine qg_val rfl gw_none (fun _ => (ov_loadall 2 ag53 rfl rfl rfl)) rfl ?_ | refine qg_val rfl gw_none (fun _ => (ov_loadall 3 ag53 rfl rfl rfl)) rfl ?_
            refine qf_step rfl ?_
            refine qg_val rfl gw_none (fun _ => (ov_move rfl)) rfl ?_
            refine qf_step rfl ?_
            refine qg_val rfl gw_none (fun _ => (ov_move rfl)) rfl ?_
            refine qf_step rfl ?_
            refine qg_val rfl gw_none (fun _ => (ov_subl Try.underlying37 sz53 rfl rfl (z) (by omega) (by omega))) rfl ?_
            refine qf_mark ⟨⟨0, rfl, soft_bslice rfl rfl Try.underlying37 ze53 sz53 rfl rfl rfl rfl rfl rfl rfl⟩, ⟨⟨2, rfl, soft_bslice rfl rfl Try.underlying37 ze53 sz53 rfl rfl rfl rfl rfl rfl rfl⟩, True.intro⟩⟩ ?_
            refine qg_soft rfl rfl rfl (fun N2 => ?_)
            refine qf_step rfl ?_
            refine qg_appT (flat encRepair) ((flat_append _)) [] (bo := some N2) (acc := []) rfl rfl rfl Try.underlying37 ze53 sz53 rfl rfl by53 rfl rfl rfl (Sl.lit rfl (by first | decide | (unfold maxLen; simp; done) | (unfold maxLen; simp; omega))) ((ordL ws (xs.take k)).take z) (fun _ _ _ => True.intro) (by rw [List.length_take]; omega) (fun w1 hp => (SR.take (hp.slsr 1 rfl hsl) (hi := z) (by omega) (by omega)).cast rfl (flat_take encRepair_len _ _).symm) (flat_one encRepair_one _) (by unfold maxLen; simp; omega) (by simp; omega) rfl (fun boq1 capq1 padq1 hsq1 => ?_)
            refine qf_step rfl ?_
            refine qg_soft rfl rfl rfl (fun N3 => ?_)
            refine qf_step rfl ?_
            refine qg_appT (flat encRepair) ((flat_append _)) [_] (acc := [] ++ (ordL ws (xs.take k)).take z) rfl rfl rfl Try.underlying37 ze53 sz53 rfl rfl by53 rfl rfl rfl hsq1 ([r]) (fun _ _ _ => True.intro) rfl (fun w1 hp => hp.sr1 0 rfl rfl (by decide)) (flat_one encRepair_one _) (by unfold maxLen; simp; omega) (by simp; omega) rfl (fun boq2 capq2 padq2 hsq2 => ?_)
            refine qf_nil ?_
            refine rl_appT (flat encRepair) ((flat_append _)) [_] (acc := [] ++ (ordL ws (xs.take k)).take z ++ [r]) Try.underlying37 ze53 sz53 rfl rfl by53 rfl rfl rfl hsq2 ((ordL ws (xs.take k)).drop z) (by rw [List.length_drop]) (fun w1 hp => (SR.drop (hp.slsr 2 rfl hsl) (lo := z) (by omega) (by omega)).cast rfl (flat_drop encRepair_len _ _).symm) (flat_one encRepair_one _) (by unfold maxLen; simp; omega) (by simp; omega) rfl (fun boq3 capq3 padq3 hsq3 => ?_)
            refine rl_val gw_none (ov_assign rfl) rfl ?_
            refine rl_nil ?_
            refine at_block ?_
            refine at_then ?_
            refine ct_reg ?_
            refine rl_val gw_none (ov_move rfl) rfl ?_
            refine rl_val gw_none (ov_add rfl rfl (by omega)) rfl ?_
            refine rl_val gw_none (ov_assign rfl) rfl ?_
            refine rl_nil ?_
            have hin : (ordL ws (xs.take (k + 1))) = ([] ++ (ordL ws (xs.take k)).take z ++ [r]) ++ (ordL ws (xs.take k)).drop z := by rw [hst, insR, hz]; rfl
            exact at_backR (k + 1, boq3, capq3, padq3) ⟨hk2, by dsimp only; rw [hin]; exact hsq3⟩ (by dsimp only; omega) (by dsimp only; rw [hin]; (repeat' (first | exact Sub.nil | refine Sub.cons ?_ ?_)); all_goals (first | rfl | exact lkInt rfl (by omega))) (Sub.cons rfl (Sub.cons rfl (Sub.cons rfl Sub.nil))) (fun _ hp => ((Hp.sub (Hp.pull hp 1 rfl) (List.sublist_append_left [_] _))).cong (by dsimp only; rw [hin]; try rfl))
        ·
          have hg : gtB ws y r = false := by unfold gtB; first | (rw [g2, g3, decide_eq_false (by first | exact h2 | omega)]; rfl) | (rw [g2, g3]; rfl)
          obtain ⟨z, hz⟩ : ∃ z, z = insP ws (ordL ws (xs.take k)) r (ordL ws (xs.take k)).length := ⟨_, rfl⟩
          have hze : p + 1 = z := by rw [hz, ← hins, insP_no hy hg]
          have hzl := insP_le ws (ordL ws (xs.take k)) r (ordL ws (xs.take k)).length
          refine ql_skip (gw_not rfl rfl g3) rfl ?_
          refine ql_skip (gw_not rfl rfl g3) rfl ?_
          refine ql_skip (gw_not rfl rfl g3) rfl ?_
          refine ql_skip (gw_not rfl rfl g3) rfl ?_
          refine ql_skip (gw_not rfl rfl g3) rfl ?_
          refine ql_skip (gw_not rfl rfl g3) rfl ?_
          refine ql_skip (gw_not rfl rfl g3) rfl ?_
          refine ql_skip (gw_not rfl rfl g3) rfl ?_
          refine ql_skip (gw_not rfl rfl g3) rfl ?_
          refine ql_val (gw_some rfl rfl g2) (ov_pick_f rfl g3 rfl) rfl ?_
          refine ql_val (gw_some rfl rfl g1) (ov_pick_f rfl g2 rfl) rfl ?_
          refine ql_val gw_none (ov_pick_t rfl g1 rfl) rfl ?_
          refine ql_nil ?_
          refine rl_nil ?_
          refine at_then ?_
          refine ct_false rfl rfl ?_
          refine ct_exit ?_
          refine at_then_exit ?_
          refine at_then_exit ?_
          refine at_block_hit ?_
          refine at_then ?_
          refine ct_fl 14 [1, 2, 3, 5, 6, 7, 8, 11, 12, 13, 0, 4, 9, 10, 14, 15] ⟨10, [11, 13], [11, 13], [10, 12], [], []⟩ (fun q => if q = 10 then (⟨53, [], fun N => sv (some N) 0 0⟩ : Soft) else if q = 12 then (⟨53, (encRepair r), fun N => sv (some N) 1 1⟩ : Soft) else ⟨0, [], fun _ => undef⟩) (by kernel_rfl) (by kernel_rfl) ?_
          refine qf_step rfl ?_
          refine qg_val rfl gw_none (fun _ => (ov_move rfl)) rfl ?_
          refine qf_step rfl ?_
          refine qg_val rfl gw_none (fun _ => (ov_move rfl)) rfl ?_
          refine qf_step rfl ?_
          refine qg_val rfl gw_none (fun _ => (ov_subh Try.underlying37 sz53 rfl rfl (z) (by omega) (by omega))) rfl ?_
          refine qf_step rfl ?_
          refine qg_val rfl gw_none (fun _ => (ov_move rfl)) rfl ?_
          refine qf_step rfl ?_
          refine qg_val rfl gw_none (fun _ => (ov_move rfl)) rfl ?_
          refine qf_step rfl ?_
          first | refine qg_val rfl gw_none (fun _ => (ov_ix Try.underlying37 sz53 rfl rfl _ rfl (by omega))) rfl ?_ | refine qg_val rfl gw_none (fun _ => (ov_ix Try.underlying37 sz53 rfl rfl (p) (by omega) (by omega))) rfl ?_ | refine qg_val rfl gw_none (fun _ => (ov_ix Try.underlying37 sz53 rfl rfl (k) (by omega) (by omega))) rfl ?_
          refine qf_step rfl ?_
          first | refine qg_val rfl gw_none (fun _ => (ov_loadaw ag53 rfl rfl (by assumption))) rfl ?_ | refine qg_val rfl gw_none (fun _ => (ov_loadall 0 ag53 rfl rfl rfl)) rfl ?_ | refine qg_val rfl gw_none (fun _ => (ov_loadall 1 ag53 rfl rfl rfl)) rfl ?_ | refine qg_val rfl gw_none (fun _ => (ov_loadall 2 ag53 rfl rfl rfl)) rfl ?_ | refine qg_val rfl gw_none (fun _ => (ov_loadall 3 ag53 rfl rfl rfl)) rfl ?_
          refine qf_step rfl ?_
          refine qg_val rfl gw_none (fun _ => (ov_move rfl)) rfl ?_
          refine qf_step rfl ?_
          refine qg_val rfl gw_none (fun _ => (ov_move rfl)) rfl ?_
          refine qf_step rfl ?_
          refine qg_val rfl gw_none (fun _ => (ov_subl Try.underlying37 sz53 rfl rfl (z) (by omega) (by omega))) rfl ?_
          refine qf_mark ⟨⟨0, rfl, soft_bslice rfl rfl Try.underlying37 ze53 sz53 rfl rfl rfl rfl rfl rfl rfl⟩, ⟨⟨2, rfl, soft_bslice rfl rfl Try.underlying37 ze53 sz53 rfl rfl rfl rfl rfl rfl rfl⟩, True.intro⟩⟩ ?_
          refine qg_soft rfl rfl rfl (fun N4 => ?_)
          refine qf_step rfl ?_
          refine qg_appT (flat encRepair) ((flat_append _)) [] (bo := some N4) (acc := []) rfl rfl rfl Try.underlying37 ze53 sz53 rfl rfl by53 rfl rfl rfl (Sl.lit rfl (by first | decide | (unfold maxLen; simp; done) | (unfold maxLen; simp; omega))) ((ordL ws (xs.take k)).take z) (fun _ _ _ => True.intro) (by rw [List.length_take]; omega) (fun w1 hp => (SR.take (hp.slsr 1 rfl hsl) (hi := z) (by omega) (by omega)).cast rfl (flat_take encRepair_len _ _).symm) (flat_one encRepair_one _) (by unfold maxLen; simp; omega) (by simp; omega) rfl (fun boq4 capq4 padq4 hsq4 => ?_)
          refine qf_step rfl ?_
          refine qg_soft rfl rfl rfl (fun N5 => ?_)
          refine qf_step rfl ?_
          refine qg_appT (flat encRepair) ((flat_append _)) [_] (acc := [] ++ (ordL ws (xs.take k)).take z) rfl rfl rfl Try.underlying37 ze53 sz53 rfl rfl by53 rfl rfl rfl hsq4 ([r]) (fun _ _ _ => True.intro) rfl (fun w1 hp => hp.sr1 0 rfl rfl (by decide)) (flat_one encRepair_one _) (by unfold maxLen; simp; omega) (by simp; omega) rfl (fun boq5 capq5 padq5 hsq5 => ?_)
          refine qf_nil ?_
          refine rl_appT (flat encRepair) ((flat_append _)) [_] (acc := [] ++ (ordL ws (xs.take k)).take z ++ [r]) Try.underlying37 ze53 sz53 rfl rfl by53 rfl rfl rfl hsq5 ((ordL ws (xs.take k)).drop z) (by rw [List.length_drop]) (fun w1 hp => (SR.drop (hp.slsr 2 rfl hsl) (lo := z) (by omega) (by omega)).cast rfl (flat_drop encRepair_len _ _).symm) (flat_one encRepair_one _) (by unfold maxLen; simp; omega) (by simp; omega) rfl (fun boq6 capq6 padq6 hsq6 => ?_)
          refine rl_val gw_none (ov_assign rfl) rfl ?_
          refine rl_nil ?_
          refine at_block ?_
          refine at_then ?_
          refine ct_reg ?_
          refine rl_val gw_none (ov_move rfl) rfl ?_
          refine rl_val gw_none (ov_add rfl rfl (by omega)) rfl ?_
          refine rl_val gw_none (ov_assign rfl) rfl ?_
          refine rl_nil ?_
          have hin : (ordL ws (xs.take (k + 1))) = ([] ++ (ordL ws (xs.take k)).take z ++ [r]) ++ (ordL ws (xs.take k)).drop z := by rw [hst, insR, hz]; rfl
          exact at_backR (k + 1, boq6, capq6, padq6) ⟨hk2, by dsimp only; rw [hin]; exact hsq6⟩ (by dsimp only; omega) (by dsimp only; rw [hin]; (repeat' (first | exact Sub.nil | refine Sub.cons ?_ ?_)); all_goals (first | rfl | exact lkInt rfl (by omega))) (Sub.cons rfl (Sub.cons rfl (Sub.cons rfl Sub.nil))) (fun _ hp => ((Hp.sub (Hp.pull hp 1 rfl) (List.sublist_append_left [_] _))).cong (by dsimp only; rw [hin]; try rfl))
    ·
      have hq0 : q = 0 := by simp at g1; omega
      subst hq0
      obtain ⟨z, hz⟩ : ∃ z, z = insP ws (ordL ws (xs.take k)) r (ordL ws (xs.take k)).length := ⟨_, rfl⟩
      have hze : 0 = z := by rw [hz, ← hins]; rfl
      have hzl := insP_le ws (ordL ws (xs.take k)) r (ordL ws (xs.take k)).length
      refine ql_skip (gw_not rfl rfl g1) rfl ?_
      refine ql_skip (gw_not rfl rfl g1) rfl ?_
      refine ql_skip (gw_not rfl rfl g1) rfl ?_
      refine ql_skip (gw_not rfl rfl g1) rfl ?_
      refine ql_skip (gw_not rfl rfl g1) rfl ?_
      refine ql_skip (gw_not rfl rfl g1) rfl ?_
      refine ql_skip (gw_not rfl rfl g1) rfl ?_
      refine ql_skip (gw_not rfl rfl g1) rfl ?_
      refine ql_skip (gw_not rfl rfl g1) rfl ?_
      refine ql_skip (gw_not rfl rfl g1) rfl ?_
      refine ql_skip (gw_not rfl rfl g1) rfl ?_
      refine ql_skip (gw_not rfl rfl g1) rfl ?_
      refine ql_skip (gw_not rfl rfl g1) rfl ?_
      refine ql_skip (gw_undef rfl rfl) rfl ?_
      refine ql_skip (gw_undef rfl rfl) rfl ?_
      refine ql_skip (gw_undef rfl rfl) rfl ?_
      refine ql_skip (gw_undef rfl rfl) rfl ?_
      refine ql_skip (gw_undef rfl rfl) rfl ?_
      refine ql_skip (gw_undef rfl rfl) rfl ?_
      refine ql_skip (gw_undef rfl rfl) rfl ?_
      refine ql_skip (gw_undef rfl rfl) rfl ?_
      refine ql_skip (gw_undef rfl rfl) rfl ?_
      refine ql_skip (gw_undef rfl rfl) rfl ?_
      refine ql_skip (gw_undef rfl rfl) rfl ?_
      refine ql_skip (gw_undef rfl rfl) rfl ?_
      refine ql_skip (gw_undef rfl rfl) rfl ?_
      refine ql_skip (gw_undef rfl rfl) rfl ?_
      refine ql_skip (gw_undef rfl rfl) rfl ?_
      refine ql_skip (gw_undef rfl rfl) rfl ?_
      refine ql_skip (gw_undef rfl rfl) rfl ?_
      refine ql_skip (gw_undef rfl rfl) rfl ?_
      refine ql_skip (gw_undef rfl rfl) rfl ?_
      refine ql_skip (gw_undef rfl rfl) rfl ?_
      refine ql_skip (gw_undef rfl rfl) rfl ?_
      refine ql_skip (gw_undef rfl rfl) rfl ?_
      refine ql_skip (gw_undef rfl rfl) rfl ?_
      refine ql_skip (gw_not rfl rfl g1) rfl ?_
      refine ql_val gw_none (ov_pick_f rfl g1 rfl) rfl ?_
      refine ql_nil ?_
      refine rl_nil ?_
      refine at_then ?_
      refine ct_false rfl rfl ?_
      refine ct_exit ?_
      refine at_then_exit ?_
      refine at_then_exit ?_
      refine at_block_hit ?_
      refine at_then ?_
      refine ct_fl 14 [1, 2, 3, 5, 6, 7, 8, 11, 12, 13, 0, 4, 9, 10, 14, 15] ⟨10, [11, 13], [11, 13], [10, 12], [], []⟩ (fun q => if q = 10 then (⟨53, [], fun N => sv (some N) 0 0⟩ : Soft) else if q = 12 then (⟨53, (encRepair r), fun N => sv (some N) 1 1⟩ : Soft) else ⟨0, [], fun _ => undef⟩) (by kernel_rfl) (by kernel_rfl) ?_
      refine qf_step rfl ?_
      refine qg_val rfl gw_none (fun _ => (ov_move rfl)) rfl ?_
      refine qf_step rfl ?_
      refine qg_val rfl gw_none (fun _ => (ov_move rfl)) rfl ?_
      refine qf_step rfl ?_
      refine qg_val rfl gw_none (fun _ => (ov_subh Try.underlying37 sz53 rfl rfl (z) (by omega) (by omega))) rfl ?_
      refine qf_step rfl ?_
      refine qg_val rfl gw_none (fun _ => (ov_move rfl)) rfl ?_
      refine qf_step rfl ?_
      refine qg_val rfl gw_none (fun _ => (ov_move rfl)) rfl ?_
      refine qf_step rfl ?_
      first | refine qg_val rfl gw_none (fun _ => (ov_ix Try.underlying37 sz53 rfl rfl _ rfl (by omega))) rfl ?_ | refine qg_val rfl gw_none (fun _ => (ov_ix Try.underlying37 sz53 rfl rfl (p) (by omega) (by omega))) rfl ?_ | refine qg_val rfl gw_none (fun _ => (ov_ix Try.underlying37 sz53 rfl rfl (k) (by omega) (by omega))) rfl ?_
      refine qf_step rfl ?_
      first | refine qg_val rfl gw_none (fun _ => (ov_loadaw ag53 rfl rfl (by assumption))) rfl ?_ | refine qg_val rfl gw_none (fun _ => (ov_loadall 0 ag53 rfl rfl rfl)) rfl ?_ | refine qg_val rfl gw_none (fun _ => (ov_loadall 1 ag53 rfl rfl rfl)) rfl ?_ | refine qg_val rfl gw_none (fun _ => (ov_loadall 2 ag53 rfl rfl rfl)) rfl ?_ | refine qg_val rfl gw_none (fun _ => (ov_loadall 3 ag53 rfl rfl rfl)) rfl ?_
      refine qf_step rfl ?_
      refine qg_val rfl gw_none (fun _ => (ov_move rfl)) rfl ?_
      refine qf_step rfl ?_
      refine qg_val rfl gw_none (fun _ => (ov_move rfl)) rfl ?_
      refine qf_step rfl ?_
      refine qg_val rfl gw_none (fun _ => (ov_subl Try.underlying37 sz53 rfl rfl (z) (by omega) (by omega))) rfl ?_
      refine qf_mark ⟨⟨0, rfl, soft_bslice rfl rfl Try.underlying37 ze53 sz53 rfl rfl rfl rfl rfl rfl rfl⟩, ⟨⟨2, rfl, soft_bslice rfl rfl Try.underlying37 ze53 sz53 rfl rfl rfl rfl rfl rfl rfl⟩, True.intro⟩⟩ ?_
      refine qg_soft rfl rfl rfl (fun N6 => ?_)
      refine qf_step rfl ?_
      refine qg_appT (flat encRepair) ((flat_append _)) [] (bo := some N6) (acc := []) rfl rfl rfl Try.underlying37 ze53 sz53 rfl rfl by53 rfl rfl rfl (Sl.lit rfl (by first | decide | (unfold maxLen; simp; done) | (unfold maxLen; simp; omega))) ((ordL ws (xs.take k)).take z) (fun _ _ _ => True.intro) (by rw [List.length_take]; omega) (fun w1 hp => (SR.take (hp.slsr 1 rfl hsl) (hi := z) (by omega) (by omega)).cast rfl (flat_take encRepair_len _ _).symm) (flat_one encRepair_one _) (by unfold maxLen; simp; omega) (by simp; omega) rfl (fun boq7 capq7 padq7 hsq7 => ?_)
      refine qf_step rfl ?_
      refine qg_soft rfl rfl rfl (fun N7 => ?_)
      refine qf_step rfl ?_
      refine qg_appT (flat encRepair) ((flat_append _)) [_] (acc := [] ++ (ordL ws (xs.take k)).take z) rfl rfl rfl Try.underlying37 ze53 sz53 rfl rfl by53 rfl rfl rfl hsq7 ([r]) (fun _ _ _ => True.intro) rfl (fun w1 hp => hp.sr1 0 rfl rfl (by decide)) (flat_one encRepair_one _) (by unfold maxLen; simp; omega) (by simp; omega) rfl (fun boq8 capq8 padq8 hsq8 => ?_)
      refine qf_nil ?_
      refine rl_appT (flat encRepair) ((flat_append _)) [_] (acc := [] ++ (ordL ws (xs.take k)).take z ++ [r]) Try.underlying37 ze53 sz53 rfl rfl by53 rfl rfl rfl hsq8 ((ordL ws (xs.take k)).drop z) (by rw [List.length_drop]) (fun w1 hp => (SR.drop (hp.slsr 2 rfl hsl) (lo := z) (by omega) (by omega)).cast rfl (flat_drop encRepair_len _ _).symm) (flat_one encRepair_one _) (by unfold maxLen; simp; omega) (by simp; omega) rfl (fun boq9 capq9 padq9 hsq9 => ?_)
      refine rl_val gw_none (ov_assign rfl) rfl ?_
      refine rl_nil ?_
      refine at_block ?_
      refine at_then ?_
      refine ct_reg ?_
      refine rl_val gw_none (ov_move rfl) rfl ?_
      refine rl_val gw_none (ov_add rfl rfl (by omega)) rfl ?_
      refine rl_val gw_none (ov_assign rfl) rfl ?_
      refine rl_nil ?_
      have hin : (ordL ws (xs.take (k + 1))) = ([] ++ (ordL ws (xs.take k)).take z ++ [r]) ++ (ordL ws (xs.take k)).drop z := by rw [hst, insR, hz]; rfl
      exact at_backR (k + 1, boq9, capq9, padq9) ⟨hk2, by dsimp only; rw [hin]; exact hsq9⟩ (by dsimp only; omega) (by dsimp only; rw [hin]; (repeat' (first | exact Sub.nil | refine Sub.cons ?_ ?_)); all_goals (first | rfl | exact lkInt rfl (by omega))) (Sub.cons rfl (Sub.cons rfl (Sub.cons rfl Sub.nil))) (fun _ hp => ((Hp.sub (Hp.pull hp 1 rfl) (List.sublist_append_left [_] _))).cong (by dsimp only; rw [hin]; try rfl))
  ·
    have hke : k = xs.length := by omega
    subst hke
    refine ct_exit ?_
    refine at_then_exit ?_
    refine at_then_exit ?_
    refine at_block_hit ?_
    refine at_then ?_
    refine ct_seq ?_
    refine ct_reg ?_
    refine rl_val gw_none (ov_move rfl) rfl ?_
    refine rl_val gw_none (ov_assign rfl) rfl ?_
    refine rl_nil ?_
    refine at_then ?_
    refine ct_ret ?_
    refine at_ret1 Try.results66 (ro_tmp rfl) (fun w1 hp => ?_)
    rw [show ordL ws xs = ordL ws (xs.take xs.length) by rw [List.take_length]]
    exact RetSl.own 0 hp rfl hsl
end Go.Proofs.Ytaajkamfeaafpaa
