import Derived.Test.YtgnnlgmeagipjaaTa
import Derived.Test.YtgnnlgmeagipjaaJc
import Derived.KernelRfl
set_option linter.unusedVariables false
set_option linter.unusedSimpArgs false
namespace Go.Proofs.Ytgnnlgmeagipjaa
open Go Go.RowKit K
theorem l1Least_c (x y : Int) (w : World) : Calls Try.prog 43 ([.int .i64 x, .int .i64 y]).toArray w (fun e w' => e = .returned (.int .i64 (imin x y)) ∧ Ext w w') := by
  refine calls_ct Try.func43 Try.ntmps43 rfl rfl ?_
  refine ct_seq ?_
  refine ct_reg ?_
  refine rl_val gw_none (ov_assign rfl) rfl ?_
  refine rl_nil ?_
  refine at_then ?_
  refine ct_seq ?_
  refine ct_seq ?_
  refine ct_reg ?_
  refine rl_val gw_none (ov_move rfl) rfl ?_
  refine rl_val gw_none (ov_move rfl) rfl ?_
  refine rl_val gw_none (ov_lss rfl rfl) rfl ?_
  refine rl_nil ?_
  refine at_then ?_
  first | refine ct_dec rfl (fun h1 => ?_) (fun h1 => ?_) | refine ct_ndec rfl (fun h1 => ?_) (fun h1 => ?_) | refine ct_eq rfl (fun h1 => ?_) (fun h1 => ?_) | refine ct_ne rfl (fun h1 => ?_) (fun h1 => ?_) | refine ct_not rfl (fun h1 => ?_) (fun h1 => ?_) | refine ct_cond rfl (fun h1 => ?_) (fun h1 => ?_)
  ·
    refine ct_seq ?_
    refine ct_reg ?_
    refine rl_val gw_none (ov_move rfl) rfl ?_
    refine rl_val gw_none (ov_assign rfl) rfl ?_
    refine rl_nil ?_
    refine at_then ?_
    refine ct_ret ?_
    refine at_then_ret ?_
    refine at_ret1 Try.results43 (ro_tmp rfl) (fun w1 hp => ?_)
    refine ⟨?_, hp.ext0⟩
    first | (rw [show imin x y = x from by unfold imin; split <;> omega]; done) | (rw [show imin x y = y from by unfold imin; split <;> omega]; done)
  ·
    refine ct_skip ?_
    refine at_then ?_
    refine ct_seq ?_
    refine ct_reg ?_
    refine rl_val gw_none (ov_move rfl) rfl ?_
    refine rl_val gw_none (ov_assign rfl) rfl ?_
    refine rl_nil ?_
    refine at_then ?_
    refine ct_ret ?_
    refine at_ret1 Try.results43 (ro_tmp rfl) (fun w1 hp => ?_)
    refine ⟨?_, hp.ext0⟩
    first | (rw [show imin x y = x from by unfold imin; split <;> omega]; done) | (rw [show imin x y = y from by unfold imin; split <;> omega]; done)

theorem l24Ways_c (xs : List Road) (f wo : Int) (s : Nat) (v : Value) (w : World) (zw : In64 wo) (hf : f = s) (hs8 : s < 8) (hok : ∀ r ∈ xs, roadB r = true) (hsr : SR w 3 v xs.length (flat encRoad xs)) : Calls Try.prog 62 ([v, .int .i64 f, .int .i64 wo]).toArray w (fun e w' => RetSl 3 1 (ints (bfE wo xs s)) 8 (fun s => s) w e w') := by
  subst hf
  obtain ⟨a, cap, rfl, hcap, hmax⟩ := hsr.slice
  have hlen := hsr.len_le
  refine calls_ct Try.func62 Try.ntmps62 rfl rfl ?_
  refine ct_seq ?_
  refine ct_reg ?_
  refine rl_val gw_none (ov_assign rfl) rfl ?_
  refine rl_nil ?_
  refine at_then ?_
  refine ct_seq ?_
  refine ct_reg ?_
  refine rl_make (m := 8) Try.underlying39 ze3 sz3 by3 rfl rfl (by omega) (by unfold maxLen; omega) rfl (fun N1 => ?_)
  refine rl_val gw_none (ov_assign rfl) rfl ?_
  refine rl_nil ?_
  refine at_then ?_
  refine ct_seq ?_
  refine ct_seq ?_
  refine ct_reg ?_
  refine rl_val gw_none (ov_assign rfl) rfl ?_
  refine rl_nil ?_
  refine at_then ?_
  refine ct_block ?_
  refine ct_loopR (ι := Nat) (fun k => [(8, .int .i64 k)]) [(0, _), (1, _), (2, _), (6, _), (7, _)] (fun k => [(some N1, 3, ints (bi k))]) (fun k => k ≤ 8) (fun k => 8 - k) (0) (Sub.cons rfl (Sub.cons rfl (Sub.cons rfl (Sub.cons rfl (Sub.cons rfl Sub.nil))))) (fun _ hq => hq.cong (by rw [bi_0])) (by (repeat' (first | exact Sub.nil | refine Sub.cons ?_ ?_)); all_goals (first | rfl | exact lkInt rfl (by omega))) (by first | exact True.intro | omega | (dsimp only; omega) | (dsimp only at *; omega)) (fun k hk => ?_)
  refine ct_seq ?_
  refine ct_seq ?_
  refine ct_reg ?_
  refine rl_val gw_none (ov_move rfl) rfl ?_
  refine rl_val gw_none (ov_move rfl) rfl ?_
  refine rl_val gw_none (ov_len Try.underlying39 rfl) rfl ?_
  refine rl_val gw_none (ov_lss rfl rfl) rfl ?_
  refine rl_nil ?_
  refine at_then ?_
  first | refine ct_dec rfl (fun h1 => ?_) (fun h1 => ?_) | refine ct_ndec rfl (fun h1 => ?_) (fun h1 => ?_) | refine ct_eq rfl (fun h1 => ?_) (fun h1 => ?_) | refine ct_ne rfl (fun h1 => ?_) (fun h1 => ?_) | refine ct_not rfl (fun h1 => ?_) (fun h1 => ?_) | refine ct_cond rfl (fun h1 => ?_) (fun h1 => ?_)
  ·
    have hk2 : k < 8 := by omega
    refine ct_skip ?_
    refine at_then ?_
    refine ct_seq ?_
    refine ct_block ?_
    refine ct_reg ?_
    refine rl_val gw_none (ov_move rfl) rfl ?_
    refine rl_val gw_none (ov_move rfl) rfl ?_
    first | refine rl_val gw_none (ov_ix Try.underlying39 sz3 rfl rfl _ rfl (by omega)) rfl ?_ | refine rl_val gw_none (ov_ix Try.underlying39 sz3 rfl rfl (k) (by omega) (by omega)) rfl ?_ | refine rl_val gw_none (ov_ix Try.underlying39 sz3 rfl rfl (s) (by omega) (by omega)) rfl ?_ | refine rl_val gw_none (ov_ix Try.underlying39 sz3 rfl rfl (j) (by omega) (by omega)) rfl ?_ | refine rl_val gw_none (ov_ix Try.underlying39 sz3 rfl rfl (r.a.toNat) (by omega) (by omega)) rfl ?_ | refine rl_val gw_none (ov_ix Try.underlying39 sz3 rfl rfl (r.b.toNat) (by omega) (by omega)) rfl ?_
    refine rl_store [] sz3 rfl rfl rfl rfl rfl (by rw [ints_length, bi_len (by omega)]; omega) ?_
    refine rl_mem (fun _ hq => hq.cong (congrArg (fun x => (_, _, x) :: _) (intsPut (p := k) _ (by rw [bi_len (by omega)]; omega) (by omega)))) ?_
    refine rl_nil ?_
    refine at_block ?_
    refine at_then ?_
    refine ct_reg ?_
    refine rl_val gw_none (ov_move rfl) rfl ?_
    refine rl_val gw_none (ov_add rfl rfl (by omega)) rfl ?_
    refine rl_val gw_none (ov_assign rfl) rfl ?_
    refine rl_nil ?_
    exact at_backR (k + 1) (by first | exact True.intro | omega | (dsimp only; omega) | (dsimp only at *; omega)) (by first | exact True.intro | omega | (dsimp only; omega) | (dsimp only at *; omega)) (by (repeat' (first | exact Sub.nil | refine Sub.cons ?_ ?_)); all_goals (first | rfl | exact lkInt rfl (by omega))) (Sub.cons rfl (Sub.cons rfl (Sub.cons rfl (Sub.cons rfl (Sub.cons rfl Sub.nil))))) (fun _ hq => hq.cong (congrArg (fun x => [(some N1, 3, ints x)]) (bi_set k hk2)))
  ·
    have hke : k = 8 := by omega
    subst hke
    refine ct_exit ?_
    refine at_then_exit ?_
    refine at_then_exit ?_
    refine at_block_hit ?_
    refine at_then ?_
    refine ct_seq ?_
    refine ct_reg ?_
    refine rl_val gw_none (ov_move rfl) rfl ?_
    refine rl_val gw_none (ov_move rfl) rfl ?_
    first | refine rl_val gw_none (ov_ix Try.underlying39 sz3 rfl rfl _ rfl (by omega)) rfl ?_ | refine rl_val gw_none (ov_ix Try.underlying39 sz3 rfl rfl (k) (by omega) (by omega)) rfl ?_ | refine rl_val gw_none (ov_ix Try.underlying39 sz3 rfl rfl (s) (by omega) (by omega)) rfl ?_ | refine rl_val gw_none (ov_ix Try.underlying39 sz3 rfl rfl (j) (by omega) (by omega)) rfl ?_ | refine rl_val gw_none (ov_ix Try.underlying39 sz3 rfl rfl (r.a.toNat) (by omega) (by omega)) rfl ?_ | refine rl_val gw_none (ov_ix Try.underlying39 sz3 rfl rfl (r.b.toNat) (by omega) (by omega)) rfl ?_
    refine rl_store [] sz3 rfl rfl rfl rfl rfl (by rw [ints_length, bi_len (by omega)]; omega) ?_
    refine rl_mem (fun _ hq => hq.cong (congrArg (fun x => (_, _, x) :: _) (intsPut (p := s) _ (by rw [bi_len (by omega)]; omega) (by omega)))) ?_
    refine rl_nil ?_
    refine at_then ?_
    refine ct_seq ?_
    refine ct_seq ?_
    refine ct_reg ?_
    refine rl_val gw_none (ov_assign rfl) rfl ?_
    refine rl_nil ?_
    refine at_then ?_
    refine ct_block ?_
    refine ct_loopR (ι := Nat) (fun k => [(9, .int .i64 k)]) [(0, _), (2, _), (6, _), (7, _)] (fun k => [(some N1, 3, ints (bfN wo xs s k))]) (fun k => k ≤ 8) (fun k => 8 - k) (0) (Sub.cons rfl (Sub.cons rfl (Sub.cons rfl (Sub.cons rfl Sub.nil)))) (fun _ hq => hq) (by (repeat' (first | exact Sub.nil | refine Sub.cons ?_ ?_)); all_goals (first | rfl | exact lkInt rfl (by omega))) (by first | exact True.intro | omega | (dsimp only; omega) | (dsimp only at *; omega)) (fun k hk => ?_)
    refine ct_seq ?_
    refine ct_seq ?_
    refine ct_reg ?_
    refine rl_val gw_none (ov_move rfl) rfl ?_
    refine rl_val gw_none (ov_move rfl) rfl ?_
    refine rl_val gw_none (ov_len Try.underlying39 rfl) rfl ?_
    refine rl_val gw_none (ov_lss rfl rfl) rfl ?_
    refine rl_nil ?_
    refine at_then ?_
    first | refine ct_dec rfl (fun h2 => ?_) (fun h2 => ?_) | refine ct_ndec rfl (fun h2 => ?_) (fun h2 => ?_) | refine ct_eq rfl (fun h2 => ?_) (fun h2 => ?_) | refine ct_ne rfl (fun h2 => ?_) (fun h2 => ?_) | refine ct_not rfl (fun h2 => ?_) (fun h2 => ?_) | refine ct_cond rfl (fun h2 => ?_) (fun h2 => ?_)
    ·
      have hk2 : k < 8 := by omega
      refine ct_skip ?_
      refine at_then ?_
      refine ct_seq ?_
      refine ct_block ?_
      refine ct_seq ?_
      refine ct_reg ?_
      refine rl_val gw_none (ov_assign rfl) rfl ?_
      refine rl_nil ?_
      refine at_then ?_
      refine ct_block ?_
      refine ct_loopR (ι := Nat) (fun j => [(10, .int .i64 j)]) [(0, _), (2, _), (6, _), (7, _), (9, _)] (fun j => [(some N1, 3, ints ((xs.take j).foldl (relaxB wo) (bfN wo xs s k)))]) (fun j => j ≤ xs.length) (fun j => xs.length - j) (0) (Sub.cons rfl (Sub.cons rfl (Sub.cons rfl (Sub.cons rfl (Sub.cons rfl Sub.nil))))) (fun _ hq => hq) (by (repeat' (first | exact Sub.nil | refine Sub.cons ?_ ?_)); all_goals (first | rfl | exact lkInt rfl (by omega))) (by first | exact True.intro | omega | (dsimp only; omega) | (dsimp only at *; omega)) (fun j hj => ?_)
      refine ct_seq ?_
      refine ct_seq ?_
      refine ct_reg ?_
      refine rl_val gw_none (ov_move rfl) rfl ?_
      refine rl_val gw_none (ov_move rfl) rfl ?_
      refine rl_val gw_none (ov_len Try.underlying28 rfl) rfl ?_
      refine rl_val gw_none (ov_lss rfl rfl) rfl ?_
      refine rl_nil ?_
      refine at_then ?_
      first | refine ct_dec rfl (fun h3 => ?_) (fun h3 => ?_) | refine ct_ndec rfl (fun h3 => ?_) (fun h3 => ?_) | refine ct_eq rfl (fun h3 => ?_) (fun h3 => ?_) | refine ct_ne rfl (fun h3 => ?_) (fun h3 => ?_) | refine ct_not rfl (fun h3 => ?_) (fun h3 => ?_) | refine ct_cond rfl (fun h3 => ?_) (fun h3 => ?_)
      ·
        have hj2 : j < xs.length := by omega
        obtain ⟨b, o, rfl, hel⟩ := hsr.elem encRoad_len (by omega) hj2
        have hx := getLt hj2
        have hrb := hok _ (List.mem_of_getElem? hx)
        generalize xs[j] = r at *
        have hcx := hel j r hx
        have hrl := road_lt hrb
        obtain ⟨ra0, ra1, ra2, ra3, ra4, ra5, ra6⟩ := hrl
        have hdl := bft_len (wo := wo) (rs := xs) (s := s) (n := k) (j := j)
        have hdb := bft_bd (wo := wo) hok (s := s) (n := k) (j := j)
        have hst := take_fold (f := relaxB wo) (z := bfN wo xs s k) hx
        have hdl2 := relaxD_len ((xs.take j).foldl (relaxB wo) (bfN wo xs s k)) r
        have hdb2 := relaxD_bd hdb hrb
        have b1 := hdb.getD r.b.toNat
        have b2 := hdb.getD r.a.toNat
        have b3 := hdb2.getD r.b.toNat
        have b4 := hdb2.getD r.a.toNat
        have v1 : (ints ((xs.take j).foldl (relaxB wo) (bfN wo xs s k)))[0 + r.b.toNat * 1]? = some (.int .i64 (((xs.take j).foldl (relaxB wo) (bfN wo xs s k)).getD r.b.toNat 0)) := intsGet (by omega) (by omega)
        have v2 : (ints ((xs.take j).foldl (relaxB wo) (bfN wo xs s k)))[0 + r.a.toNat * 1]? = some (.int .i64 (((xs.take j).foldl (relaxB wo) (bfN wo xs s k)).getD r.a.toNat 0)) := intsGet (by omega) (by omega)
        have v3 : (ints (((xs.take j).foldl (relaxB wo) (bfN wo xs s k)).set r.b.toNat (imin (((xs.take j).foldl (relaxB wo) (bfN wo xs s k)).getD r.b.toNat 0) (((xs.take j).foldl (relaxB wo) (bfN wo xs s k)).getD r.a.toNat 0 + r.days))))[0 + r.b.toNat * 1]? = some (.int .i64 ((relaxD ((xs.take j).foldl (relaxB wo) (bfN wo xs s k)) r).getD r.b.toNat 0)) := intsGet (xs := relaxD ((xs.take j).foldl (relaxB wo) (bfN wo xs s k)) r) (by omega) (by omega)
        have v4 : (ints (((xs.take j).foldl (relaxB wo) (bfN wo xs s k)).set r.b.toNat (imin (((xs.take j).foldl (relaxB wo) (bfN wo xs s k)).getD r.b.toNat 0) (((xs.take j).foldl (relaxB wo) (bfN wo xs s k)).getD r.a.toNat 0 + r.days))))[0 + r.a.toNat * 1]? = some (.int .i64 ((relaxD ((xs.take j).foldl (relaxB wo) (bfN wo xs s k)) r).getD r.a.toNat 0)) := intsGet (xs := relaxD ((xs.take j).foldl (relaxB wo) (bfN wo xs s k)) r) (by omega) (by omega)
        refine ct_skip ?_
        refine at_then ?_
        refine ct_seq ?_
        refine ct_block ?_
        refine ct_seq ?_
        refine ct_reg ?_
        refine rl_val gw_none (ov_move rfl) rfl ?_
        refine rl_val gw_none (ov_move rfl) rfl ?_
        first | refine rl_val gw_none (ov_ix Try.underlying28 sz65 rfl rfl _ rfl (by omega)) rfl ?_ | refine rl_val gw_none (ov_ix Try.underlying28 sz65 rfl rfl (k) (by omega) (by omega)) rfl ?_ | refine rl_val gw_none (ov_ix Try.underlying28 sz65 rfl rfl (s) (by omega) (by omega)) rfl ?_ | refine rl_val gw_none (ov_ix Try.underlying28 sz65 rfl rfl (j) (by omega) (by omega)) rfl ?_ | refine rl_val gw_none (ov_ix Try.underlying28 sz65 rfl rfl (r.a.toNat) (by omega) (by omega)) rfl ?_ | refine rl_val gw_none (ov_ix Try.underlying28 sz65 rfl rfl (r.b.toNat) (by omega) (by omega)) rfl ?_
        first | refine rl_val gw_none (ov_loadaw ag65 rfl rfl (by assumption)) rfl ?_ | refine rl_val gw_none (ov_loadall 0 ag65 rfl rfl rfl) rfl ?_ | refine rl_val gw_none (ov_loadall 1 ag65 rfl rfl rfl) rfl ?_ | refine rl_val gw_none (ov_loadall 2 ag65 rfl rfl rfl) rfl ?_ | refine rl_val gw_none (ov_loadall 3 ag65 rfl rfl rfl) rfl ?_
        refine rl_alloc ze65 rfl (fun N2 => ?_)
        refine rl_store [] sz65 rfl rfl rfl rfl rfl (Nat.le_of_ble_eq_true rfl) ?_
        refine rl_nil ?_
        refine at_then ?_
        refine ct_seq ?_
        refine ct_seq ?_
        refine ct_reg ?_
        refine rl_val gw_none (ov_field fo65_0 rfl) rfl ?_
        first | refine rl_val gw_none (ov_load 0 sc3 rfl rfl rfl) rfl ?_ | refine rl_val gw_none (ov_load 0 sc3 rfl rfl (by assumption)) rfl ?_
        refine rl_val gw_none (ov_move rfl) rfl ?_
        refine rl_val gw_none (ov_eql rfl rfl) rfl ?_
        refine rl_val gw_none (ov_move rfl) rfl ?_
        refine rl_split (t := 45) rfl (fun g1 => ?_) (fun g1 => ?_)
        ·
          have g1' := g1
          try simp only [Bool.not_eq_true', Bool.not_eq_false', Bool.not_not, decide_eq_true_eq, decide_eq_false_iff_not, beq_iff_eq, beq_eq_false_iff_ne, bne_iff_ne, bne_eq_false_iff_eq, Bool.and_eq_true, Bool.or_eq_true, Bool.and_eq_false_iff, Bool.or_eq_false_iff, inB] at g1'
          refine rl_skip (gw_not rfl rfl g1) rfl ?_
          refine rl_skip (gw_not rfl rfl g1) rfl ?_
          refine rl_skip (gw_not rfl rfl g1) rfl ?_
          refine rl_skip (gw_not rfl rfl g1) rfl ?_
          refine rl_val gw_none (ov_pick_t rfl g1 rfl) rfl ?_
          refine rl_nil ?_
          refine at_then ?_
          refine ct_true rfl rfl ?_
          refine ct_exit ?_
          refine at_then_exit ?_
          refine at_block_hit ?_
          refine at_then ?_
          refine ct_reg ?_
          refine rl_val gw_none (ov_move rfl) rfl ?_
          refine rl_val gw_none (ov_add rfl rfl (by omega)) rfl ?_
          refine rl_val gw_none (ov_assign rfl) rfl ?_
          refine rl_nil ?_
          exact at_backR (j + 1) (by first | exact True.intro | omega | (dsimp only; omega) | (dsimp only at *; omega)) (by first | exact True.intro | omega | (dsimp only; omega) | (dsimp only at *; omega)) (by (repeat' (first | exact Sub.nil | refine Sub.cons ?_ ?_)); all_goals (first | rfl | exact lkInt rfl (by omega))) (Sub.cons rfl (Sub.cons rfl (Sub.cons rfl (Sub.cons rfl (Sub.cons rfl Sub.nil))))) (fun _ hq => hq.drop.cong (congrArg (fun x => [(some N1, 3, ints x)]) (by first | (rw [hst, relaxB_yes (by unfold allow; first | (simp_all; done) | (simp_all; omega))]; rfl) | (rw [hst, relaxB_no (by unfold allow; first | (simp_all; done) | (simp_all; omega))]; done))))
        ·
          have g1' := g1
          try simp only [Bool.not_eq_true', Bool.not_eq_false', Bool.not_not, decide_eq_true_eq, decide_eq_false_iff_not, beq_iff_eq, beq_eq_false_iff_ne, bne_iff_ne, bne_eq_false_iff_eq, Bool.and_eq_true, Bool.or_eq_true, Bool.and_eq_false_iff, Bool.or_eq_false_iff, inB] at g1'
          refine rl_val (gw_some rfl rfl g1) (ov_field fo65_1 rfl) rfl ?_
          first | refine rl_val (gw_some rfl rfl g1) (ov_load 0 sc3 rfl rfl rfl) rfl ?_ | refine rl_val (gw_some rfl rfl g1) (ov_load 0 sc3 rfl rfl (by assumption)) rfl ?_
          refine rl_val (gw_some rfl rfl g1) (ov_move rfl) rfl ?_
          refine rl_val (gw_some rfl rfl g1) (ov_eql rfl rfl) rfl ?_
          refine rl_val gw_none (ov_pick_f rfl g1 rfl) rfl ?_
          refine rl_nil ?_
          refine at_then ?_
          first | refine ct_dec rfl (fun h4 => ?_) (fun h4 => ?_) | refine ct_ndec rfl (fun h4 => ?_) (fun h4 => ?_) | refine ct_eq rfl (fun h4 => ?_) (fun h4 => ?_) | refine ct_ne rfl (fun h4 => ?_) (fun h4 => ?_) | refine ct_not rfl (fun h4 => ?_) (fun h4 => ?_) | refine ct_cond rfl (fun h4 => ?_) (fun h4 => ?_)
          ·
            refine ct_exit ?_
            refine at_then_exit ?_
            refine at_block_hit ?_
            refine at_then ?_
            refine ct_reg ?_
            refine rl_val gw_none (ov_move rfl) rfl ?_
            refine rl_val gw_none (ov_add rfl rfl (by omega)) rfl ?_
            refine rl_val gw_none (ov_assign rfl) rfl ?_
            refine rl_nil ?_
            exact at_backR (j + 1) (by first | exact True.intro | omega | (dsimp only; omega) | (dsimp only at *; omega)) (by first | exact True.intro | omega | (dsimp only; omega) | (dsimp only at *; omega)) (by (repeat' (first | exact Sub.nil | refine Sub.cons ?_ ?_)); all_goals (first | rfl | exact lkInt rfl (by omega))) (Sub.cons rfl (Sub.cons rfl (Sub.cons rfl (Sub.cons rfl (Sub.cons rfl Sub.nil))))) (fun _ hq => hq.drop.cong (congrArg (fun x => [(some N1, 3, ints x)]) (by first | (rw [hst, relaxB_yes (by unfold allow; first | (simp_all; done) | (simp_all; omega))]; rfl) | (rw [hst, relaxB_no (by unfold allow; first | (simp_all; done) | (simp_all; omega))]; done))))
          ·
            refine ct_skip ?_
            refine at_then ?_
            refine ct_seq ?_
            refine ct_dr 18 (by kernel_rfl) (by kernel_rfl) ?_
            refine ql_val gw_none (ov_move rfl) rfl ?_
            refine ql_val gw_none (ov_field fo65_1 rfl) rfl ?_
            first | refine ql_val gw_none (ov_load 0 sc3 rfl rfl rfl) rfl ?_ | refine ql_val gw_none (ov_load 0 sc3 rfl rfl (by assumption)) rfl ?_
            refine ql_val gw_none (ov_move rfl) rfl ?_
            refine ql_val gw_none (ov_field fo65_1 rfl) rfl ?_
            first | refine ql_val gw_none (ov_load 0 sc3 rfl rfl rfl) rfl ?_ | refine ql_val gw_none (ov_load 0 sc3 rfl rfl (by assumption)) rfl ?_
            first | refine ql_val gw_none (ov_ix Try.underlying39 sz3 rfl rfl _ rfl (by omega)) rfl ?_ | refine ql_val gw_none (ov_ix Try.underlying39 sz3 rfl rfl (k) (by omega) (by omega)) rfl ?_ | refine ql_val gw_none (ov_ix Try.underlying39 sz3 rfl rfl (s) (by omega) (by omega)) rfl ?_ | refine ql_val gw_none (ov_ix Try.underlying39 sz3 rfl rfl (j) (by omega) (by omega)) rfl ?_ | refine ql_val gw_none (ov_ix Try.underlying39 sz3 rfl rfl (r.a.toNat) (by omega) (by omega)) rfl ?_ | refine ql_val gw_none (ov_ix Try.underlying39 sz3 rfl rfl (r.b.toNat) (by omega) (by omega)) rfl ?_
            first | refine ql_val gw_none (ov_load 1 sc3 rfl rfl rfl) rfl ?_ | refine ql_val gw_none (ov_load 1 sc3 rfl rfl (by assumption)) rfl ?_
            refine ql_val gw_none (ov_move rfl) rfl ?_
            refine ql_val gw_none (ov_field fo65_0 rfl) rfl ?_
            first | refine ql_val gw_none (ov_load 0 sc3 rfl rfl rfl) rfl ?_ | refine ql_val gw_none (ov_load 0 sc3 rfl rfl (by assumption)) rfl ?_
            first | refine ql_val gw_none (ov_ix Try.underlying39 sz3 rfl rfl _ rfl (by omega)) rfl ?_ | refine ql_val gw_none (ov_ix Try.underlying39 sz3 rfl rfl (k) (by omega) (by omega)) rfl ?_ | refine ql_val gw_none (ov_ix Try.underlying39 sz3 rfl rfl (s) (by omega) (by omega)) rfl ?_ | refine ql_val gw_none (ov_ix Try.underlying39 sz3 rfl rfl (j) (by omega) (by omega)) rfl ?_ | refine ql_val gw_none (ov_ix Try.underlying39 sz3 rfl rfl (r.a.toNat) (by omega) (by omega)) rfl ?_ | refine ql_val gw_none (ov_ix Try.underlying39 sz3 rfl rfl (r.b.toNat) (by omega) (by omega)) rfl ?_
            first | refine ql_val gw_none (ov_load 1 sc3 rfl rfl rfl) rfl ?_ | refine ql_val gw_none (ov_load 1 sc3 rfl rfl (by assumption)) rfl ?_
            refine ql_val gw_none (ov_field fo65_2 rfl) rfl ?_
            first | refine ql_val gw_none (ov_load 0 sc3 rfl rfl rfl) rfl ?_ | refine ql_val gw_none (ov_load 0 sc3 rfl rfl (by assumption)) rfl ?_
            refine ql_val gw_none (ov_add rfl rfl (by omega)) rfl ?_
            refine ql_callv gw_none goes43 rfl (fun w1 hp => l1Least_c _ _ _) rfl ?_
            first | refine ql_val gw_none (ov_ix Try.underlying39 sz3 rfl rfl _ rfl (by omega)) rfl ?_ | refine ql_val gw_none (ov_ix Try.underlying39 sz3 rfl rfl (k) (by omega) (by omega)) rfl ?_ | refine ql_val gw_none (ov_ix Try.underlying39 sz3 rfl rfl (s) (by omega) (by omega)) rfl ?_ | refine ql_val gw_none (ov_ix Try.underlying39 sz3 rfl rfl (j) (by omega) (by omega)) rfl ?_ | refine ql_val gw_none (ov_ix Try.underlying39 sz3 rfl rfl (r.a.toNat) (by omega) (by omega)) rfl ?_ | refine ql_val gw_none (ov_ix Try.underlying39 sz3 rfl rfl (r.b.toNat) (by omega) (by omega)) rfl ?_
            refine ql_nil ?_
            refine rl_store [_] sz3 rfl rfl rfl rfl rfl (by rw [ints_length]; omega) ?_
            refine rl_mem (fun _ hq => hq.cong (congrArg (fun x => _ :: (_, _, x) :: _) (intsPut (p := r.b.toNat) _ (by omega) (by omega)))) ?_
            refine rl_nil ?_
            refine at_then ?_
            refine ct_dr 18 (by kernel_rfl) (by kernel_rfl) ?_
            refine ql_val gw_none (ov_move rfl) rfl ?_
            refine ql_val gw_none (ov_field fo65_0 rfl) rfl ?_
            first | refine ql_val gw_none (ov_load 0 sc3 rfl rfl rfl) rfl ?_ | refine ql_val gw_none (ov_load 0 sc3 rfl rfl (by assumption)) rfl ?_
            refine ql_val gw_none (ov_move rfl) rfl ?_
            refine ql_val gw_none (ov_field fo65_0 rfl) rfl ?_
            first | refine ql_val gw_none (ov_load 0 sc3 rfl rfl rfl) rfl ?_ | refine ql_val gw_none (ov_load 0 sc3 rfl rfl (by assumption)) rfl ?_
            first | refine ql_val gw_none (ov_ix Try.underlying39 sz3 rfl rfl _ rfl (by omega)) rfl ?_ | refine ql_val gw_none (ov_ix Try.underlying39 sz3 rfl rfl (k) (by omega) (by omega)) rfl ?_ | refine ql_val gw_none (ov_ix Try.underlying39 sz3 rfl rfl (s) (by omega) (by omega)) rfl ?_ | refine ql_val gw_none (ov_ix Try.underlying39 sz3 rfl rfl (j) (by omega) (by omega)) rfl ?_ | refine ql_val gw_none (ov_ix Try.underlying39 sz3 rfl rfl (r.a.toNat) (by omega) (by omega)) rfl ?_ | refine ql_val gw_none (ov_ix Try.underlying39 sz3 rfl rfl (r.b.toNat) (by omega) (by omega)) rfl ?_
            first | refine ql_val gw_none (ov_load 1 sc3 rfl rfl rfl) rfl ?_ | refine ql_val gw_none (ov_load 1 sc3 rfl rfl (by assumption)) rfl ?_
            refine ql_val gw_none (ov_move rfl) rfl ?_
            refine ql_val gw_none (ov_field fo65_1 rfl) rfl ?_
            first | refine ql_val gw_none (ov_load 0 sc3 rfl rfl rfl) rfl ?_ | refine ql_val gw_none (ov_load 0 sc3 rfl rfl (by assumption)) rfl ?_
            first | refine ql_val gw_none (ov_ix Try.underlying39 sz3 rfl rfl _ rfl (by omega)) rfl ?_ | refine ql_val gw_none (ov_ix Try.underlying39 sz3 rfl rfl (k) (by omega) (by omega)) rfl ?_ | refine ql_val gw_none (ov_ix Try.underlying39 sz3 rfl rfl (s) (by omega) (by omega)) rfl ?_ | refine ql_val gw_none (ov_ix Try.underlying39 sz3 rfl rfl (j) (by omega) (by omega)) rfl ?_ | refine ql_val gw_none (ov_ix Try.underlying39 sz3 rfl rfl (r.a.toNat) (by omega) (by omega)) rfl ?_ | refine ql_val gw_none (ov_ix Try.underlying39 sz3 rfl rfl (r.b.toNat) (by omega) (by omega)) rfl ?_
            first | refine ql_val gw_none (ov_load 1 sc3 rfl rfl rfl) rfl ?_ | refine ql_val gw_none (ov_load 1 sc3 rfl rfl (by assumption)) rfl ?_
            refine ql_val gw_none (ov_field fo65_2 rfl) rfl ?_
            first | refine ql_val gw_none (ov_load 0 sc3 rfl rfl rfl) rfl ?_ | refine ql_val gw_none (ov_load 0 sc3 rfl rfl (by assumption)) rfl ?_
            refine ql_val gw_none (ov_add rfl rfl (by omega)) rfl ?_
            refine ql_callv gw_none goes43 rfl (fun w1 hp => l1Least_c _ _ _) rfl ?_
            first | refine ql_val gw_none (ov_ix Try.underlying39 sz3 rfl rfl _ rfl (by omega)) rfl ?_ | refine ql_val gw_none (ov_ix Try.underlying39 sz3 rfl rfl (k) (by omega) (by omega)) rfl ?_ | refine ql_val gw_none (ov_ix Try.underlying39 sz3 rfl rfl (s) (by omega) (by omega)) rfl ?_ | refine ql_val gw_none (ov_ix Try.underlying39 sz3 rfl rfl (j) (by omega) (by omega)) rfl ?_ | refine ql_val gw_none (ov_ix Try.underlying39 sz3 rfl rfl (r.a.toNat) (by omega) (by omega)) rfl ?_ | refine ql_val gw_none (ov_ix Try.underlying39 sz3 rfl rfl (r.b.toNat) (by omega) (by omega)) rfl ?_
            refine ql_nil ?_
            refine rl_store [_] sz3 rfl rfl rfl rfl rfl (by rw [ints_length, List.length_set]; omega) ?_
            refine rl_mem (fun _ hq => hq.cong (congrArg (fun x => _ :: (_, _, x) :: _) (intsPut (p := r.a.toNat) _ (by rw [List.length_set]; omega) (by omega)))) ?_
            refine rl_nil ?_
            refine at_block ?_
            refine at_then ?_
            refine ct_reg ?_
            refine rl_val gw_none (ov_move rfl) rfl ?_
            refine rl_val gw_none (ov_add rfl rfl (by omega)) rfl ?_
            refine rl_val gw_none (ov_assign rfl) rfl ?_
            refine rl_nil ?_
            exact at_backR (j + 1) (by first | exact True.intro | omega | (dsimp only; omega) | (dsimp only at *; omega)) (by first | exact True.intro | omega | (dsimp only; omega) | (dsimp only at *; omega)) (by (repeat' (first | exact Sub.nil | refine Sub.cons ?_ ?_)); all_goals (first | rfl | exact lkInt rfl (by omega))) (Sub.cons rfl (Sub.cons rfl (Sub.cons rfl (Sub.cons rfl (Sub.cons rfl Sub.nil))))) (fun _ hq => hq.drop.cong (congrArg (fun x => [(some N1, 3, ints x)]) (by first | (rw [hst, relaxB_yes (by unfold allow; first | (simp_all; done) | (simp_all; omega))]; rfl) | (rw [hst, relaxB_no (by unfold allow; first | (simp_all; done) | (simp_all; omega))]; done))))
      ·
        have hje : j = xs.length := by omega
        subst hje
        refine ct_exit ?_
        refine at_then_exit ?_
        refine at_then_exit ?_
        refine at_block_hit ?_
        refine at_block ?_
        refine at_then ?_
        refine ct_reg ?_
        refine rl_val gw_none (ov_move rfl) rfl ?_
        refine rl_val gw_none (ov_add rfl rfl (by omega)) rfl ?_
        refine rl_val gw_none (ov_assign rfl) rfl ?_
        refine rl_nil ?_
        exact at_backR (k + 1) (by first | exact True.intro | omega | (dsimp only; omega) | (dsimp only at *; omega)) (by first | exact True.intro | omega | (dsimp only; omega) | (dsimp only at *; omega)) (by (repeat' (first | exact Sub.nil | refine Sub.cons ?_ ?_)); all_goals (first | rfl | exact lkInt rfl (by omega))) (Sub.cons rfl (Sub.cons rfl (Sub.cons rfl (Sub.cons rfl Sub.nil)))) (fun _ hq => hq.cong (congrArg (fun x => [(some N1, 3, ints x)]) (by rw [List.take_length]; rfl)))
    ·
      have hke : k = 8 := by omega
      subst hke
      refine ct_exit ?_
      refine at_then_exit ?_
      refine at_then_exit ?_
      refine at_block_hit ?_
      refine at_then ?_
      refine ct_seq ?_
      refine ct_reg ?_
      refine rl_val gw_none (ov_move rfl) rfl ?_
      refine rl_val gw_none (ov_assign rfl) rfl ?_
      refine rl_nil ?_
      refine at_then ?_
      refine ct_ret ?_
      refine at_ret1 Try.results62 (ro_tmp rfl) (fun w1 hp => ?_)
      rw [bfE_def]
      exact RetSl.lit 0 hp rfl (by rw [ints_length, bf_len]) (by unfold maxLen; omega)
end Go.Proofs.Ytgnnlgmeagipjaa
