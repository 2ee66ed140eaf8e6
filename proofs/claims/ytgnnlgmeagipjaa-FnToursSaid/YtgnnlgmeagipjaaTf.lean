import Derived.Test.YtgnnlgmeagipjaaTc
import Derived.Test.YtgnnlgmeagipjaaJc
import Derived.KernelRfl
set_option linter.unusedVariables false
set_option linter.unusedSimpArgs false
namespace Go.Proofs.Ytgnnlgmeagipjaa
open Go Go.RowKit K
theorem waysOf_c (xs : List Road) (wo : Int) (v : Value) (w : World) (zw : In64 wo) (hok : ∀ r ∈ xs, roadB r = true) (hsr : SR w 3 v xs.length (flat encRoad xs)) : Calls Try.prog 47 ([v, .int .i64 wo]).toArray w (fun e w' => e = .returned (.agg (ints (ways wo xs)).toArray) ∧ Ext w w') := by
  obtain ⟨a, cap, rfl, hcap, hmax⟩ := hsr.slice
  have hlen := hsr.len_le
  refine calls_ct Try.func47 Try.ntmps47 rfl rfl ?_
  refine ct_seq ?_
  refine ct_reg ?_
  refine rl_alloc ze72 rfl (fun N1 => ?_)
  refine rl_nil ?_
  refine at_then ?_
  refine ct_seq ?_
  refine ct_reg ?_
  refine rl_alloc ze72 rfl (fun N2 => ?_)
  refine rl_nil ?_
  refine at_then ?_
  refine ct_seq ?_
  refine ct_seq ?_
  refine ct_reg ?_
  refine rl_val gw_none (ov_move rfl) rfl ?_
  refine rl_nil ?_
  refine at_then ?_
  refine ct_block ?_
  refine ct_loopR (ι := Nat) (fun k => [(13, .int .i64 k)]) [(0, _), (1, _), (4, _), (5, _)] (fun k => [(some N2, 72, ints (mi (8 * k))), (some N1, 72, List.replicate 64 (.int .i64 0))]) (fun k => k ≤ 8) (fun k => 8 - k) (0) (Sub.cons rfl (Sub.cons rfl (Sub.cons rfl (Sub.cons rfl Sub.nil)))) (fun _ hq => hq.cong (by rw [Nat.mul_zero, mi_0])) (by (repeat' (first | exact Sub.nil | refine Sub.cons ?_ ?_)); all_goals (first | rfl | exact lkInt rfl (by omega))) (by first | exact True.intro | omega | (dsimp only; omega) | (dsimp only at *; omega)) (fun k hk => ?_)
  refine ct_seq ?_
  refine ct_reg ?_
  refine rl_val gw_none (ov_lss rfl rfl) rfl ?_
  refine rl_nil ?_
  refine at_then ?_
  refine ct_seq ?_
  first | refine ct_dec rfl (fun h1 => ?_) (fun h1 => ?_) | refine ct_ndec rfl (fun h1 => ?_) (fun h1 => ?_) | refine ct_eq rfl (fun h1 => ?_) (fun h1 => ?_) | refine ct_ne rfl (fun h1 => ?_) (fun h1 => ?_) | refine ct_not rfl (fun h1 => ?_) (fun h1 => ?_) | refine ct_cond rfl (fun h1 => ?_) (fun h1 => ?_)
  ·
    have hk2 : k < 8 := by omega
    refine ct_skip ?_
    refine at_then ?_
    refine ct_seq ?_
    refine ct_block ?_
    refine ct_seq ?_
    refine ct_reg ?_
    refine rl_val gw_none (ov_move rfl) rfl ?_
    refine rl_val gw_none (ov_assign rfl) rfl ?_
    refine rl_nil ?_
    refine at_then ?_
    refine ct_seq ?_
    refine ct_reg ?_
    refine rl_val gw_none (ov_move rfl) rfl ?_
    refine rl_nil ?_
    refine at_then ?_
    refine ct_block ?_
    refine ct_loopR (ι := Nat) (fun j => [(16, .int .i64 j)]) [(0, _), (1, _), (4, _), (5, _), (6, _), (13, _)] (fun j => [(some N2, 72, ints (mi (8 * k + j))), (some N1, 72, List.replicate 64 (.int .i64 0))]) (fun j => j ≤ 8) (fun j => 8 - j) (0) (Sub.cons rfl (Sub.cons rfl (Sub.cons rfl (Sub.cons rfl (Sub.cons rfl (Sub.cons rfl Sub.nil)))))) (fun _ hq => hq) (by (repeat' (first | exact Sub.nil | refine Sub.cons ?_ ?_)); all_goals (first | rfl | exact lkInt rfl (by omega))) (by first | exact True.intro | omega | (dsimp only; omega) | (dsimp only at *; omega)) (fun j hj => ?_)
    refine ct_seq ?_
    refine ct_reg ?_
    refine rl_val gw_none (ov_lss rfl rfl) rfl ?_
    refine rl_nil ?_
    refine at_then ?_
    refine ct_seq ?_
    first | refine ct_dec rfl (fun h2 => ?_) (fun h2 => ?_) | refine ct_ndec rfl (fun h2 => ?_) (fun h2 => ?_) | refine ct_eq rfl (fun h2 => ?_) (fun h2 => ?_) | refine ct_ne rfl (fun h2 => ?_) (fun h2 => ?_) | refine ct_not rfl (fun h2 => ?_) (fun h2 => ?_) | refine ct_cond rfl (fun h2 => ?_) (fun h2 => ?_)
    ·
      have hj2 : j < 8 := by omega
      refine ct_skip ?_
      refine at_then ?_
      refine ct_seq ?_
      refine ct_block ?_
      refine ct_seq ?_
      refine ct_reg ?_
      refine rl_val gw_none (ov_move rfl) rfl ?_
      refine rl_val gw_none (ov_assign rfl) rfl ?_
      refine rl_nil ?_
      refine at_then ?_
      refine ct_seq ?_
      refine ct_reg ?_
      refine rl_val gw_none (ov_move rfl) rfl ?_
      refine rl_val gw_none (ov_move rfl) rfl ?_
      refine rl_val gw_none (ov_neq rfl rfl) rfl ?_
      refine rl_nil ?_
      refine at_then ?_
      first | refine ct_dec rfl (fun h3 => ?_) (fun h3 => ?_) | refine ct_ndec rfl (fun h3 => ?_) (fun h3 => ?_) | refine ct_eq rfl (fun h3 => ?_) (fun h3 => ?_) | refine ct_ne rfl (fun h3 => ?_) (fun h3 => ?_) | refine ct_not rfl (fun h3 => ?_) (fun h3 => ?_) | refine ct_cond rfl (fun h3 => ?_) (fun h3 => ?_)
      ·
        refine ct_reg ?_
        refine rl_val gw_none (ov_move rfl) rfl ?_
        refine rl_val gw_none (ov_move rfl) rfl ?_
        first | refine rl_val gw_none (ov_ixa Try.underlying72 sz71 rfl rfl _ rfl (by omega)) rfl ?_ | refine rl_val gw_none (ov_ixa Try.underlying72 sz71 rfl rfl (r.a.toNat) (by omega) (by omega)) rfl ?_ | refine rl_val gw_none (ov_ixa Try.underlying72 sz71 rfl rfl (r.b.toNat) (by omega) (by omega)) rfl ?_
        first | refine rl_val gw_none (ov_ixa Try.underlying71 sz3 rfl rfl _ rfl (by omega)) rfl ?_ | refine rl_val gw_none (ov_ixa Try.underlying71 sz3 rfl rfl (r.a.toNat) (by omega) (by omega)) rfl ?_ | refine rl_val gw_none (ov_ixa Try.underlying71 sz3 rfl rfl (r.b.toNat) (by omega) (by omega)) rfl ?_
        refine rl_store [] sz3 rfl rfl rfl rfl rfl (by rw [ints_length, mi_len]; omega) ?_
        refine rl_mem (fun _ hq => hq.cong (congrArg (fun x => (_, _, x) :: _) (intsPut (p := 8 * k + j) _ (by rw [mi_len]; omega) (by omega)))) ?_
        refine rl_nil ?_
        refine at_block ?_
        refine at_then ?_
        refine ct_reg ?_
        refine rl_val gw_none (ov_add rfl rfl (by omega)) rfl ?_
        refine rl_val gw_none (ov_move rfl) rfl ?_
        refine rl_nil ?_
        exact at_backR (j + 1) (by first | exact True.intro | omega | (dsimp only; omega) | (dsimp only at *; omega)) (by first | exact True.intro | omega | (dsimp only; omega) | (dsimp only at *; omega)) (by (repeat' (first | exact Sub.nil | refine Sub.cons ?_ ?_)); all_goals (first | rfl | exact lkInt rfl (by omega))) (Sub.cons rfl (Sub.cons rfl (Sub.cons rfl (Sub.cons rfl (Sub.cons rfl (Sub.cons rfl Sub.nil)))))) (fun _ hq => hq.cong (congrArg (fun x => [(some N2, 72, ints x), (some N1, 72, List.replicate 64 (Value.int .i64 0))]) (by first | rfl | (rw [mi_set (by omega) (by omega) (by omega)]; rfl) | (rw [mi_same (by omega) (by omega) (by omega)]; rfl))))
      ·
        refine ct_skip ?_
        refine at_block ?_
        refine at_then ?_
        refine ct_reg ?_
        refine rl_val gw_none (ov_add rfl rfl (by omega)) rfl ?_
        refine rl_val gw_none (ov_move rfl) rfl ?_
        refine rl_nil ?_
        exact at_backR (j + 1) (by first | exact True.intro | omega | (dsimp only; omega) | (dsimp only at *; omega)) (by first | exact True.intro | omega | (dsimp only; omega) | (dsimp only at *; omega)) (by (repeat' (first | exact Sub.nil | refine Sub.cons ?_ ?_)); all_goals (first | rfl | exact lkInt rfl (by omega))) (Sub.cons rfl (Sub.cons rfl (Sub.cons rfl (Sub.cons rfl (Sub.cons rfl (Sub.cons rfl Sub.nil)))))) (fun _ hq => hq.cong (congrArg (fun x => [(some N2, 72, ints x), (some N1, 72, List.replicate 64 (Value.int .i64 0))]) (by first | rfl | (rw [mi_set (by omega) (by omega) (by omega)]; rfl) | (rw [mi_same (by omega) (by omega) (by omega)]; rfl))))
    ·
      have hje : j = 8 := by omega
      subst hje
      refine ct_exit ?_
      refine at_then_exit ?_
      refine at_then_exit ?_
      refine at_block_hit ?_
      refine at_block ?_
      refine at_then ?_
      refine ct_reg ?_
      refine rl_val gw_none (ov_add rfl rfl (by omega)) rfl ?_
      refine rl_val gw_none (ov_move rfl) rfl ?_
      refine rl_nil ?_
      exact at_backR (k + 1) (by first | exact True.intro | omega | (dsimp only; omega) | (dsimp only at *; omega)) (by first | exact True.intro | omega | (dsimp only; omega) | (dsimp only at *; omega)) (by (repeat' (first | exact Sub.nil | refine Sub.cons ?_ ?_)); all_goals (first | rfl | exact lkInt rfl (by omega))) (Sub.cons rfl (Sub.cons rfl (Sub.cons rfl (Sub.cons rfl Sub.nil)))) (fun _ hq => hq)
  ·
    have hke : k = 8 := by omega
    subst hke
    refine ct_exit ?_
    refine at_then_exit ?_
    refine at_then_exit ?_
    refine at_block_hit ?_
    refine at_then ?_
    refine ct_seq ?_
    refine ct_seq ?_
    refine ct_reg ?_
    refine rl_val gw_none (ov_move rfl) rfl ?_
    refine rl_val gw_none (ov_len Try.underlying28 rfl) rfl ?_
    refine rl_val gw_none (ov_move rfl) rfl ?_
    refine rl_nil ?_
    refine at_then ?_
    refine ct_block ?_
    refine ct_loopR (ι := Nat) (fun k => [(30, .int .i64 k)]) [(1, _), (4, _), (5, _), (28, _), (29, _)] (fun k => [(some N2, 72, ints ((xs.take k).foldl (setRoad wo) m0)), (some N1, 72, List.replicate 64 (.int .i64 0))]) (fun k => k ≤ xs.length) (fun k => xs.length - k) (0) (Sub.cons rfl (Sub.cons rfl (Sub.cons rfl (Sub.cons rfl (Sub.cons rfl Sub.nil))))) (fun _ hq => hq.cong (by rw [← mi_64]; rfl)) (by (repeat' (first | exact Sub.nil | refine Sub.cons ?_ ?_)); all_goals (first | rfl | exact lkInt rfl (by omega))) (by first | exact True.intro | omega | (dsimp only; omega) | (dsimp only at *; omega)) (fun k hk => ?_)
    refine ct_seq ?_
    refine ct_reg ?_
    refine rl_val gw_none (ov_lss rfl rfl) rfl ?_
    refine rl_nil ?_
    refine at_then ?_
    refine ct_seq ?_
    first | refine ct_dec rfl (fun h4 => ?_) (fun h4 => ?_) | refine ct_ndec rfl (fun h4 => ?_) (fun h4 => ?_) | refine ct_eq rfl (fun h4 => ?_) (fun h4 => ?_) | refine ct_ne rfl (fun h4 => ?_) (fun h4 => ?_) | refine ct_not rfl (fun h4 => ?_) (fun h4 => ?_) | refine ct_cond rfl (fun h4 => ?_) (fun h4 => ?_)
    ·
      have hk2 : k < xs.length := by omega
      obtain ⟨b, o, rfl, hel⟩ := hsr.elem encRoad_len (by omega) hk2
      have hx := getLt hk2
      have hrb := hok _ (List.mem_of_getElem? hx)
      generalize xs[k] = r at *
      have hcx := hel k r hx
      have hrl := road_lt hrb
      obtain ⟨ra0, ra1, ra2, ra3, ra4, ra5, ra6⟩ := hrl
      have hml : ((xs.take k).foldl (setRoad wo) m0).length = 64 := by rw [sets_len]; rfl
      refine ct_skip ?_
      refine at_then ?_
      refine ct_seq ?_
      refine ct_block ?_
      refine ct_seq ?_
      refine ct_reg ?_
      first | refine rl_val gw_none (ov_ix Try.underlying28 sz65 rfl rfl _ rfl (by omega)) rfl ?_ | refine rl_val gw_none (ov_ix Try.underlying28 sz65 rfl rfl (r.a.toNat) (by omega) (by omega)) rfl ?_ | refine rl_val gw_none (ov_ix Try.underlying28 sz65 rfl rfl (r.b.toNat) (by omega) (by omega)) rfl ?_
      first | refine rl_val gw_none (ov_loadaw ag65 rfl rfl (by assumption)) rfl ?_ | refine rl_val gw_none (ov_loadall 0 ag65 rfl rfl rfl) rfl ?_ | refine rl_val gw_none (ov_loadall 1 ag65 rfl rfl rfl) rfl ?_ | refine rl_val gw_none (ov_loadall 2 ag65 rfl rfl rfl) rfl ?_ | refine rl_val gw_none (ov_loadall 3 ag65 rfl rfl rfl) rfl ?_
      refine rl_alloc ze65 rfl (fun N3 => ?_)
      refine rl_store [] sz65 rfl rfl rfl rfl rfl (Nat.le_of_ble_eq_true rfl) ?_
      refine rl_nil ?_
      refine at_then ?_
      refine ct_seq ?_
      refine ct_reg ?_
      refine rl_val gw_none (ov_field fo65_0 rfl) rfl ?_
      first | refine rl_val gw_none (ov_load 0 sc3 rfl rfl rfl) rfl ?_ | refine rl_val gw_none (ov_load 0 sc3 rfl rfl (by assumption)) rfl ?_
      refine rl_val gw_none (ov_move rfl) rfl ?_
      refine rl_val gw_none (ov_neq rfl rfl) rfl ?_
      refine rl_val gw_none (ov_move rfl) rfl ?_
      refine rl_split (t := 38) rfl (fun g1 => ?_) (fun g1 => ?_)
      ·
        have g1' := g1
        try simp only [Bool.not_eq_true', Bool.not_eq_false', Bool.not_not, decide_eq_true_eq, decide_eq_false_iff_not, beq_iff_eq, beq_eq_false_iff_ne, bne_iff_ne, bne_eq_false_iff_eq, Bool.and_eq_true, Bool.or_eq_true, Bool.and_eq_false_iff, Bool.or_eq_false_iff, inB] at g1'
        refine rl_val (gw_some rfl rfl g1) (ov_field fo65_1 rfl) rfl ?_
        first | refine rl_val (gw_some rfl rfl g1) (ov_load 0 sc3 rfl rfl rfl) rfl ?_ | refine rl_val (gw_some rfl rfl g1) (ov_load 0 sc3 rfl rfl (by assumption)) rfl ?_
        refine rl_val (gw_some rfl rfl g1) (ov_move rfl) rfl ?_
        refine rl_val (gw_some rfl rfl g1) (ov_neq rfl rfl) rfl ?_
        refine rl_val gw_none (ov_pick_t rfl g1 rfl) rfl ?_
        refine rl_nil ?_
        refine at_then ?_
        first | refine ct_dec rfl (fun h5 => ?_) (fun h5 => ?_) | refine ct_ndec rfl (fun h5 => ?_) (fun h5 => ?_) | refine ct_eq rfl (fun h5 => ?_) (fun h5 => ?_) | refine ct_ne rfl (fun h5 => ?_) (fun h5 => ?_) | refine ct_not rfl (fun h5 => ?_) (fun h5 => ?_) | refine ct_cond rfl (fun h5 => ?_) (fun h5 => ?_)
        ·
          refine ct_fl 16 [0, 1, 2, 3, 4, 5, 6, 7, 8, 9, 10, 11, 12, 13, 15, 14, 16, 17] ⟨0, [15], [15], [], [1, 3, 9], [5, 7, 11]⟩ (fun q => ⟨0, [], fun _ => undef⟩) (by kernel_rfl) (by kernel_rfl) ?_
          refine qf_mark True.intro ?_
          refine qg_val rfl gw_none (fun _ => (ov_field fo65_0 rfl)) rfl ?_
          refine qf_step rfl ?_
          first | refine qg_valm rfl rfl gw_none (ov_load 0 sc3 rfl rfl rfl) rfl ?_ | refine qg_valm rfl rfl gw_none (ov_load 0 sc3 rfl rfl (by assumption)) rfl ?_
          refine qf_step rfl ?_
          refine qg_val rfl gw_none (fun _ => (ov_field fo65_1 rfl)) rfl ?_
          refine qf_step rfl ?_
          first | refine qg_valm rfl rfl gw_none (ov_load 0 sc3 rfl rfl rfl) rfl ?_ | refine qg_valm rfl rfl gw_none (ov_load 0 sc3 rfl rfl (by assumption)) rfl ?_
          refine qf_step rfl ?_
          refine qg_val rfl gw_none (fun _ => (ov_field fo65_1 rfl)) rfl ?_
          refine qf_step rfl ?_
          first | refine qg_vall 0 rfl rfl rfl gw_none (ov_load 0 sc3 rfl rfl rfl) rfl ?_ | refine qg_vall 0 rfl rfl rfl gw_none (ov_load 0 sc3 rfl rfl (by assumption)) rfl ?_
          refine qf_step rfl ?_
          refine qg_val rfl gw_none (fun _ => (ov_field fo65_0 rfl)) rfl ?_
          refine qf_step rfl ?_
          first | refine qg_vall 0 rfl rfl rfl gw_none (ov_load 0 sc3 rfl rfl rfl) rfl ?_ | refine qg_vall 0 rfl rfl rfl gw_none (ov_load 0 sc3 rfl rfl (by assumption)) rfl ?_
          refine qf_step rfl ?_
          refine qg_val rfl gw_none (fun _ => (ov_field fo65_2 rfl)) rfl ?_
          refine qf_step rfl ?_
          first | refine qg_valm rfl rfl gw_none (ov_load 0 sc3 rfl rfl rfl) rfl ?_ | refine qg_valm rfl rfl gw_none (ov_load 0 sc3 rfl rfl (by assumption)) rfl ?_
          refine qf_step rfl ?_
          refine qg_val rfl gw_none (fun _ => (ov_field fo65_2 rfl)) rfl ?_
          refine qf_step rfl ?_
          first | refine qg_vall 0 rfl rfl rfl gw_none (ov_load 0 sc3 rfl rfl rfl) rfl ?_ | refine qg_vall 0 rfl rfl rfl gw_none (ov_load 0 sc3 rfl rfl (by assumption)) rfl ?_
          refine qf_step rfl ?_
          first | refine qg_val rfl gw_none (fun _ => (ov_ixa Try.underlying72 sz71 rfl rfl _ rfl (by omega))) rfl ?_ | refine qg_val rfl gw_none (fun _ => (ov_ixa Try.underlying72 sz71 rfl rfl (r.a.toNat) (by omega) (by omega))) rfl ?_ | refine qg_val rfl gw_none (fun _ => (ov_ixa Try.underlying72 sz71 rfl rfl (r.b.toNat) (by omega) (by omega))) rfl ?_
          refine qf_step rfl ?_
          first | refine qg_val rfl gw_none (fun _ => (ov_ixa Try.underlying71 sz3 rfl rfl _ rfl (by omega))) rfl ?_ | refine qg_val rfl gw_none (fun _ => (ov_ixa Try.underlying71 sz3 rfl rfl (r.a.toNat) (by omega) (by omega))) rfl ?_ | refine qg_val rfl gw_none (fun _ => (ov_ixa Try.underlying71 sz3 rfl rfl (r.b.toNat) (by omega) (by omega))) rfl ?_
          refine qf_step rfl ?_
          first | refine qg_val rfl gw_none (fun _ => (ov_ixa Try.underlying72 sz71 rfl rfl _ rfl (by omega))) rfl ?_ | refine qg_val rfl gw_none (fun _ => (ov_ixa Try.underlying72 sz71 rfl rfl (r.a.toNat) (by omega) (by omega))) rfl ?_ | refine qg_val rfl gw_none (fun _ => (ov_ixa Try.underlying72 sz71 rfl rfl (r.b.toNat) (by omega) (by omega))) rfl ?_
          refine qf_step rfl ?_
          refine qg_store [_] rfl rfl rfl ⟨⟨0, rfl⟩, ⟨⟨0, rfl⟩, ⟨⟨0, rfl⟩, True.intro⟩⟩⟩ sz3 rfl rfl rfl rfl rfl (by rw [ints_length, hml]; omega) ?_
          refine qf_mem (congrArg (fun x => _ :: (_, _, x) :: _) (intsPut (p := 8 * r.a.toNat + r.b.toNat) _ (by rw [hml]; omega) (by omega))) ?_
          refine qf_nil ?_
          first | refine rl_val gw_none (ov_ixa Try.underlying71 sz3 rfl rfl _ rfl (by omega)) rfl ?_ | refine rl_val gw_none (ov_ixa Try.underlying71 sz3 rfl rfl (r.a.toNat) (by omega) (by omega)) rfl ?_ | refine rl_val gw_none (ov_ixa Try.underlying71 sz3 rfl rfl (r.b.toNat) (by omega) (by omega)) rfl ?_
          refine rl_store [_] sz3 rfl rfl rfl rfl rfl (by rw [ints_length, List.length_set, hml]; omega) ?_
          refine rl_mem (fun _ hq => hq.cong (congrArg (fun x => _ :: (_, _, x) :: _) (intsPut (p := 8 * r.b.toNat + r.a.toNat) _ (by rw [List.length_set, hml]; omega) (by omega)))) ?_
          refine rl_nil ?_
          refine at_block ?_
          refine at_then ?_
          refine ct_reg ?_
          refine rl_val gw_none (ov_add rfl rfl (by omega)) rfl ?_
          refine rl_val gw_none (ov_move rfl) rfl ?_
          refine rl_nil ?_
          have hst := take_fold (f := setRoad wo) (z := m0) hx
          exact at_backR (k + 1) (by first | exact True.intro | omega | (dsimp only; omega) | (dsimp only at *; omega)) (by first | exact True.intro | omega | (dsimp only; omega) | (dsimp only at *; omega)) (by (repeat' (first | exact Sub.nil | refine Sub.cons ?_ ?_)); all_goals (first | rfl | exact lkInt rfl (by omega))) (Sub.cons rfl (Sub.cons rfl (Sub.cons rfl (Sub.cons rfl (Sub.cons rfl Sub.nil))))) (fun _ hq => hq.drop.cong (congrArg (fun x => [(some N2, 72, ints x), (some N1, 72, List.replicate 64 (Value.int .i64 0))]) (by first | (rw [hst, setRoad_yes (by unfold allow; first | (simp_all; done) | (simp_all; omega))]; done) | (rw [hst, setRoad_no (by unfold allow; first | (simp_all; done) | (simp_all; omega))]; done))))
        ·
          refine ct_skip ?_
          refine at_block ?_
          refine at_then ?_
          refine ct_reg ?_
          refine rl_val gw_none (ov_add rfl rfl (by omega)) rfl ?_
          refine rl_val gw_none (ov_move rfl) rfl ?_
          refine rl_nil ?_
          have hst := take_fold (f := setRoad wo) (z := m0) hx
          exact at_backR (k + 1) (by first | exact True.intro | omega | (dsimp only; omega) | (dsimp only at *; omega)) (by first | exact True.intro | omega | (dsimp only; omega) | (dsimp only at *; omega)) (by (repeat' (first | exact Sub.nil | refine Sub.cons ?_ ?_)); all_goals (first | rfl | exact lkInt rfl (by omega))) (Sub.cons rfl (Sub.cons rfl (Sub.cons rfl (Sub.cons rfl (Sub.cons rfl Sub.nil))))) (fun _ hq => hq.drop.cong (congrArg (fun x => [(some N2, 72, ints x), (some N1, 72, List.replicate 64 (Value.int .i64 0))]) (by first | (rw [hst, setRoad_yes (by unfold allow; first | (simp_all; done) | (simp_all; omega))]; done) | (rw [hst, setRoad_no (by unfold allow; first | (simp_all; done) | (simp_all; omega))]; done))))
      ·
        have g1' := g1
        try simp only [Bool.not_eq_true', Bool.not_eq_false', Bool.not_not, decide_eq_true_eq, decide_eq_false_iff_not, beq_iff_eq, beq_eq_false_iff_ne, bne_iff_ne, bne_eq_false_iff_eq, Bool.and_eq_true, Bool.or_eq_true, Bool.and_eq_false_iff, Bool.or_eq_false_iff, inB] at g1'
        refine rl_skip (gw_not rfl rfl g1) rfl ?_
        refine rl_skip (gw_not rfl rfl g1) rfl ?_
        refine rl_skip (gw_not rfl rfl g1) rfl ?_
        refine rl_skip (gw_not rfl rfl g1) rfl ?_
        refine rl_val gw_none (ov_pick_f rfl g1 rfl) rfl ?_
        refine rl_nil ?_
        refine at_then ?_
        refine ct_false rfl rfl ?_
        refine ct_skip ?_
        refine at_block ?_
        refine at_then ?_
        refine ct_reg ?_
        refine rl_val gw_none (ov_add rfl rfl (by omega)) rfl ?_
        refine rl_val gw_none (ov_move rfl) rfl ?_
        refine rl_nil ?_
        have hst := take_fold (f := setRoad wo) (z := m0) hx
        exact at_backR (k + 1) (by first | exact True.intro | omega | (dsimp only; omega) | (dsimp only at *; omega)) (by first | exact True.intro | omega | (dsimp only; omega) | (dsimp only at *; omega)) (by (repeat' (first | exact Sub.nil | refine Sub.cons ?_ ?_)); all_goals (first | rfl | exact lkInt rfl (by omega))) (Sub.cons rfl (Sub.cons rfl (Sub.cons rfl (Sub.cons rfl (Sub.cons rfl Sub.nil))))) (fun _ hq => hq.drop.cong (congrArg (fun x => [(some N2, 72, ints x), (some N1, 72, List.replicate 64 (Value.int .i64 0))]) (by first | (rw [hst, setRoad_yes (by unfold allow; first | (simp_all; done) | (simp_all; omega))]; done) | (rw [hst, setRoad_no (by unfold allow; first | (simp_all; done) | (simp_all; omega))]; done))))
    ·
      have hke : k = xs.length := by omega
      subst hke
      refine ct_exit ?_
      refine at_then_exit ?_
      refine at_then_exit ?_
      refine at_block_hit ?_
      refine at_then ?_
      refine ct_seq ?_
      refine ct_seq ?_
      refine ct_reg ?_
      refine rl_val gw_none (ov_move rfl) rfl ?_
      refine rl_nil ?_
      refine at_then ?_
      refine ct_block ?_
      refine ct_loopR (ι := Nat) (fun k => [(61, .int .i64 k)]) [(4, _), (5, _)] (fun k => [(some N2, 72, ints (fwT (roadsM wo xs) (64 * k))), (some N1, 72, List.replicate 64 (.int .i64 0))]) (fun k => k ≤ 8) (fun k => 8 - k) (0) (Sub.cons rfl (Sub.cons rfl Sub.nil)) (fun _ hq => hq.cong (congrArg (fun x => [(some N2, 72, ints x), (some N1, 72, List.replicate 64 (Value.int .i64 0))]) (by rw [List.take_length]; rfl))) (by (repeat' (first | exact Sub.nil | refine Sub.cons ?_ ?_)); all_goals (first | rfl | exact lkInt rfl (by omega))) (by first | exact True.intro | omega | (dsimp only; omega) | (dsimp only at *; omega)) (fun k hk => ?_)
      refine ct_seq ?_
      refine ct_reg ?_
      refine rl_val gw_none (ov_lss rfl rfl) rfl ?_
      refine rl_nil ?_
      refine at_then ?_
      refine ct_seq ?_
      first | refine ct_dec rfl (fun h6 => ?_) (fun h6 => ?_) | refine ct_ndec rfl (fun h6 => ?_) (fun h6 => ?_) | refine ct_eq rfl (fun h6 => ?_) (fun h6 => ?_) | refine ct_ne rfl (fun h6 => ?_) (fun h6 => ?_) | refine ct_not rfl (fun h6 => ?_) (fun h6 => ?_) | refine ct_cond rfl (fun h6 => ?_) (fun h6 => ?_)
      ·
        have hk2 : k < 8 := by omega
        refine ct_skip ?_
        refine at_then ?_
        refine ct_seq ?_
        refine ct_block ?_
        refine ct_seq ?_
        refine ct_reg ?_
        refine rl_val gw_none (ov_move rfl) rfl ?_
        refine rl_val gw_none (ov_assign rfl) rfl ?_
        refine rl_nil ?_
        refine at_then ?_
        refine ct_seq ?_
        refine ct_reg ?_
        refine rl_val gw_none (ov_move rfl) rfl ?_
        refine rl_nil ?_
        refine at_then ?_
        refine ct_block ?_
        refine ct_loopR (ι := Nat) (fun a => [(64, .int .i64 a)]) [(4, _), (5, _), (10, _), (61, _)] (fun a => [(some N2, 72, ints (fwT (roadsM wo xs) (64 * k + 8 * a))), (some N1, 72, List.replicate 64 (.int .i64 0))]) (fun a => a ≤ 8) (fun a => 8 - a) (0) (Sub.cons rfl (Sub.cons rfl (Sub.cons rfl (Sub.cons rfl Sub.nil)))) (fun _ hq => hq) (by (repeat' (first | exact Sub.nil | refine Sub.cons ?_ ?_)); all_goals (first | rfl | exact lkInt rfl (by omega))) (by first | exact True.intro | omega | (dsimp only; omega) | (dsimp only at *; omega)) (fun a ha => ?_)
        refine ct_seq ?_
        refine ct_reg ?_
        refine rl_val gw_none (ov_lss rfl rfl) rfl ?_
        refine rl_nil ?_
        refine at_then ?_
        refine ct_seq ?_
        first | refine ct_dec rfl (fun h7 => ?_) (fun h7 => ?_) | refine ct_ndec rfl (fun h7 => ?_) (fun h7 => ?_) | refine ct_eq rfl (fun h7 => ?_) (fun h7 => ?_) | refine ct_ne rfl (fun h7 => ?_) (fun h7 => ?_) | refine ct_not rfl (fun h7 => ?_) (fun h7 => ?_) | refine ct_cond rfl (fun h7 => ?_) (fun h7 => ?_)
        ·
          have ha2 : a < 8 := by omega
          refine ct_skip ?_
          refine at_then ?_
          refine ct_seq ?_
          refine ct_block ?_
          refine ct_seq ?_
          refine ct_reg ?_
          refine rl_val gw_none (ov_move rfl) rfl ?_
          refine rl_val gw_none (ov_assign rfl) rfl ?_
          refine rl_nil ?_
          refine at_then ?_
          refine ct_seq ?_
          refine ct_reg ?_
          refine rl_val gw_none (ov_move rfl) rfl ?_
          refine rl_nil ?_
          refine at_then ?_
          refine ct_block ?_
          refine ct_loopR (ι := Nat) (fun j => [(67, .int .i64 j)]) [(4, _), (5, _), (10, _), (11, _), (61, _), (64, _)] (fun j => [(some N2, 72, ints (fwT (roadsM wo xs) (64 * k + 8 * a + j))), (some N1, 72, List.replicate 64 (.int .i64 0))]) (fun j => j ≤ 8) (fun j => 8 - j) (0) (Sub.cons rfl (Sub.cons rfl (Sub.cons rfl (Sub.cons rfl (Sub.cons rfl (Sub.cons rfl Sub.nil)))))) (fun _ hq => hq) (by (repeat' (first | exact Sub.nil | refine Sub.cons ?_ ?_)); all_goals (first | rfl | exact lkInt rfl (by omega))) (by first | exact True.intro | omega | (dsimp only; omega) | (dsimp only at *; omega)) (fun j hj => ?_)
          refine ct_seq ?_
          refine ct_reg ?_
          refine rl_val gw_none (ov_lss rfl rfl) rfl ?_
          refine rl_nil ?_
          refine at_then ?_
          refine ct_seq ?_
          first | refine ct_dec rfl (fun h8 => ?_) (fun h8 => ?_) | refine ct_ndec rfl (fun h8 => ?_) (fun h8 => ?_) | refine ct_eq rfl (fun h8 => ?_) (fun h8 => ?_) | refine ct_ne rfl (fun h8 => ?_) (fun h8 => ?_) | refine ct_not rfl (fun h8 => ?_) (fun h8 => ?_) | refine ct_cond rfl (fun h8 => ?_) (fun h8 => ?_)
          ·
            have hj2 : j < 8 := by omega
            have hfl := fwl wo xs (64 * k + 8 * a + j)
            have hfb := bd_fw (bd_roads (wo := wo) hok) (64 * k + 8 * a + j)
            have v1 := g8At hfl ha2 hj2
            have v2 := g8At hfl ha2 hk2
            have v3 := g8At hfl hk2 hj2
            have b2 := hfb.getD (8 * a + k)
            have b3 := hfb.getD (8 * k + j)
            change 0 ≤ g8 _ _ _ ∧ g8 _ _ _ ≤ _ at b2
            change 0 ≤ g8 _ _ _ ∧ g8 _ _ _ ≤ _ at b3
            refine ct_skip ?_
            refine at_then ?_
            refine ct_seq ?_
            refine ct_block ?_
            refine ct_seq ?_
            refine ct_reg ?_
            refine rl_val gw_none (ov_move rfl) rfl ?_
            refine rl_val gw_none (ov_assign rfl) rfl ?_
            refine rl_nil ?_
            refine at_then ?_
            refine ct_dr 21 (by kernel_rfl) (by kernel_rfl) ?_
            refine ql_val gw_none (ov_move rfl) rfl ?_
            refine ql_val gw_none (ov_move rfl) rfl ?_
            refine ql_val gw_none (ov_move rfl) rfl ?_
            refine ql_val gw_none (ov_move rfl) rfl ?_
            first | refine ql_val gw_none (ov_ixa Try.underlying72 sz71 rfl rfl _ rfl (by omega)) rfl ?_ | refine ql_val gw_none (ov_ixa Try.underlying72 sz71 rfl rfl (r.a.toNat) (by omega) (by omega)) rfl ?_ | refine ql_val gw_none (ov_ixa Try.underlying72 sz71 rfl rfl (r.b.toNat) (by omega) (by omega)) rfl ?_
            first | refine ql_val gw_none (ov_ixa Try.underlying71 sz3 rfl rfl _ rfl (by omega)) rfl ?_ | refine ql_val gw_none (ov_ixa Try.underlying71 sz3 rfl rfl (r.a.toNat) (by omega) (by omega)) rfl ?_ | refine ql_val gw_none (ov_ixa Try.underlying71 sz3 rfl rfl (r.b.toNat) (by omega) (by omega)) rfl ?_
            first | refine ql_val gw_none (ov_load 0 sc3 rfl rfl rfl) rfl ?_ | refine ql_val gw_none (ov_load 0 sc3 rfl rfl (by assumption)) rfl ?_
            refine ql_val gw_none (ov_move rfl) rfl ?_
            refine ql_val gw_none (ov_move rfl) rfl ?_
            first | refine ql_val gw_none (ov_ixa Try.underlying72 sz71 rfl rfl _ rfl (by omega)) rfl ?_ | refine ql_val gw_none (ov_ixa Try.underlying72 sz71 rfl rfl (r.a.toNat) (by omega) (by omega)) rfl ?_ | refine ql_val gw_none (ov_ixa Try.underlying72 sz71 rfl rfl (r.b.toNat) (by omega) (by omega)) rfl ?_
            first | refine ql_val gw_none (ov_ixa Try.underlying71 sz3 rfl rfl _ rfl (by omega)) rfl ?_ | refine ql_val gw_none (ov_ixa Try.underlying71 sz3 rfl rfl (r.a.toNat) (by omega) (by omega)) rfl ?_ | refine ql_val gw_none (ov_ixa Try.underlying71 sz3 rfl rfl (r.b.toNat) (by omega) (by omega)) rfl ?_
            first | refine ql_val gw_none (ov_load 0 sc3 rfl rfl rfl) rfl ?_ | refine ql_val gw_none (ov_load 0 sc3 rfl rfl (by assumption)) rfl ?_
            refine ql_val gw_none (ov_move rfl) rfl ?_
            refine ql_val gw_none (ov_move rfl) rfl ?_
            first | refine ql_val gw_none (ov_ixa Try.underlying72 sz71 rfl rfl _ rfl (by omega)) rfl ?_ | refine ql_val gw_none (ov_ixa Try.underlying72 sz71 rfl rfl (r.a.toNat) (by omega) (by omega)) rfl ?_ | refine ql_val gw_none (ov_ixa Try.underlying72 sz71 rfl rfl (r.b.toNat) (by omega) (by omega)) rfl ?_
            first | refine ql_val gw_none (ov_ixa Try.underlying71 sz3 rfl rfl _ rfl (by omega)) rfl ?_ | refine ql_val gw_none (ov_ixa Try.underlying71 sz3 rfl rfl (r.a.toNat) (by omega) (by omega)) rfl ?_ | refine ql_val gw_none (ov_ixa Try.underlying71 sz3 rfl rfl (r.b.toNat) (by omega) (by omega)) rfl ?_
            first | refine ql_val gw_none (ov_load 0 sc3 rfl rfl rfl) rfl ?_ | refine ql_val gw_none (ov_load 0 sc3 rfl rfl (by assumption)) rfl ?_
            refine ql_val gw_none (ov_add rfl rfl (by omega)) rfl ?_
            refine ql_val gw_none (ov_min rfl rfl) rfl ?_
            first | refine ql_val gw_none (ov_ixa Try.underlying72 sz71 rfl rfl _ rfl (by omega)) rfl ?_ | refine ql_val gw_none (ov_ixa Try.underlying72 sz71 rfl rfl (r.a.toNat) (by omega) (by omega)) rfl ?_ | refine ql_val gw_none (ov_ixa Try.underlying72 sz71 rfl rfl (r.b.toNat) (by omega) (by omega)) rfl ?_
            first | refine ql_val gw_none (ov_ixa Try.underlying71 sz3 rfl rfl _ rfl (by omega)) rfl ?_ | refine ql_val gw_none (ov_ixa Try.underlying71 sz3 rfl rfl (r.a.toNat) (by omega) (by omega)) rfl ?_ | refine ql_val gw_none (ov_ixa Try.underlying71 sz3 rfl rfl (r.b.toNat) (by omega) (by omega)) rfl ?_
            refine ql_nil ?_
            refine rl_store [] sz3 rfl rfl rfl rfl rfl (by rw [ints_length, hfl]; omega) ?_
            refine rl_mem (fun _ hq => hq.cong (congrArg (fun x => (_, _, x) :: _) (intsPut (p := 8 * a + j) _ (by rw [hfl]; omega) (by omega)))) ?_
            refine rl_nil ?_
            refine at_block ?_
            refine at_then ?_
            refine ct_reg ?_
            refine rl_val gw_none (ov_add rfl rfl (by omega)) rfl ?_
            refine rl_val gw_none (ov_move rfl) rfl ?_
            refine rl_nil ?_
            exact at_backR (j + 1) (by first | exact True.intro | omega | (dsimp only; omega) | (dsimp only at *; omega)) (by first | exact True.intro | omega | (dsimp only; omega) | (dsimp only at *; omega)) (by (repeat' (first | exact Sub.nil | refine Sub.cons ?_ ?_)); all_goals (first | rfl | exact lkInt rfl (by omega))) (Sub.cons rfl (Sub.cons rfl (Sub.cons rfl (Sub.cons rfl (Sub.cons rfl (Sub.cons rfl Sub.nil)))))) (fun _ hq => hq.cong (congrArg (fun x => [(some N2, 72, ints x), (some N1, 72, List.replicate 64 (Value.int .i64 0))]) (by rw [show 64 * k + 8 * a + (j + 1) = 64 * k + 8 * a + j + 1 from rfl, fw_step (by omega) (by omega) (by omega)]; rfl)))
          ·
            have hje : j = 8 := by omega
            subst hje
            refine ct_exit ?_
            refine at_then_exit ?_
            refine at_then_exit ?_
            refine at_block_hit ?_
            refine at_block ?_
            refine at_then ?_
            refine ct_reg ?_
            refine rl_val gw_none (ov_add rfl rfl (by omega)) rfl ?_
            refine rl_val gw_none (ov_move rfl) rfl ?_
            refine rl_nil ?_
            exact at_backR (a + 1) (by first | exact True.intro | omega | (dsimp only; omega) | (dsimp only at *; omega)) (by first | exact True.intro | omega | (dsimp only; omega) | (dsimp only at *; omega)) (by (repeat' (first | exact Sub.nil | refine Sub.cons ?_ ?_)); all_goals (first | rfl | exact lkInt rfl (by omega))) (Sub.cons rfl (Sub.cons rfl (Sub.cons rfl (Sub.cons rfl Sub.nil)))) (fun _ hq => hq)
        ·
          have hae : a = 8 := by omega
          subst hae
          refine ct_exit ?_
          refine at_then_exit ?_
          refine at_then_exit ?_
          refine at_block_hit ?_
          refine at_block ?_
          refine at_then ?_
          refine ct_reg ?_
          refine rl_val gw_none (ov_add rfl rfl (by omega)) rfl ?_
          refine rl_val gw_none (ov_move rfl) rfl ?_
          refine rl_nil ?_
          exact at_backR (k + 1) (by first | exact True.intro | omega | (dsimp only; omega) | (dsimp only at *; omega)) (by first | exact True.intro | omega | (dsimp only; omega) | (dsimp only at *; omega)) (by (repeat' (first | exact Sub.nil | refine Sub.cons ?_ ?_)); all_goals (first | rfl | exact lkInt rfl (by omega))) (Sub.cons rfl (Sub.cons rfl Sub.nil)) (fun _ hq => hq)
      ·
        have hke : k = 8 := by omega
        subst hke
        refine ct_exit ?_
        refine at_then_exit ?_
        refine at_then_exit ?_
        refine at_block_hit ?_
        refine at_then ?_
        refine ct_seq ?_
        refine ct_reg ?_
        refine rl_val gw_none (ov_loadall 0 ag72 rfl rfl (by rw [ints_length, fwl])) rfl ?_
        refine rl_store [_] sz72 rfl rfl ((aggSize _).trans (fwl _ _ _)) (ints_cell _) rfl (by simp) ?_
        refine rl_nil ?_
        refine at_then ?_
        refine ct_ret ?_
        refine at_ret1 Try.results47 (ro_cell 1 ag72 rfl rfl (by rw [putAll, ints_length]; exact fwl wo xs _)) (fun w1 hp => ?_)
        refine ⟨?_, hp.ext0⟩
        rw [putAll, ways_def64]
end Go.Proofs.Ytgnnlgmeagipjaa
