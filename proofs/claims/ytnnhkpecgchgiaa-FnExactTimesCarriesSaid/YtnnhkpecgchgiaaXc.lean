import Derived.Test.YtnnhkpecgchgiaaXb
import Derived.Test.YtnnhkpecgchgiaaUc
import Derived.Test.YtnnhkpecgchgiaaUg
import Derived.KernelRfl
set_option linter.unusedVariables false
set_option linter.unusedSimpArgs false
namespace Go.Proofs.Ytnnhkpecgchgiaa
open Go Go.RowKit K
theorem for1480 (w : World) : Calls Try.prog 48 [.int .i64 1, .int .i64 4, .int .i64 8, .int .i64 0].toArray w (fun e w' => RetSl 81 2 (flat encIntA2 (showL 0 8)) (showL 0 8).length (fun s => .tuple #[.agg [.int .i64 1, .int .i64 4, s].toArray, .bool true]) w e w') := by
  have h := iFrameFor_c 1 4 8 0 w (by unfold In64; omega) (by unfold In64; omega) (by unfold In64; omega) (by unfold In64; omega)
  rw [ff1480] at h
  exact h

theorem sCarries_y (u l : Int) (xs : List IntA2) (n : Int) (vxs : Value) (w : World) (zu : In64 u) (zl : In64 l) (hGxs : ∀ y ∈ xs, GIntA2 y) (hsxs : SR w 2 vxs xs.length (flat encIntA2 xs)) (zn : In64 n) (hc : addNB u l xs n = true) :
    Calls Try.prog 33 [.agg (List.toArray (α := Value) [.int .i64 u, .int .i64 l, vxs]), .int .i64 n].toArray w (fun e w' => e = .returned (.tuple #[.int .i64 ((addN xs n xs.length).2 : Nat), .bool true]) ∧ Ext w w') := by
  have h := sCarriesOf_c u l xs n vxs w zu zl hGxs hsxs zn
  rw [hc, if_pos rfl] at h
  exact h

theorem iTimesCarries_c (a b : Int) (w : World) (za : In64 a) (zb : In64 b) : Calls Try.prog 45 ([.int .i64 a, .int .i64 b]).toArray w (fun e w' => e = .returned (.tuple #[.int .i64 (timR a b), .bool (timB a b)]) ∧ Ext w w') := by
  refine calls_ct Try.func45 Try.ntmps45 rfl rfl ?_
  refine ct_seq ?_
  refine ct_reg ?_
  refine rl_val gw_none (ov_assign rfl) rfl ?_
  refine rl_val gw_none (ov_assign rfl) rfl ?_
  refine rl_nil ?_
  refine at_then ?_
  refine ct_seq ?_
  refine ct_seq ?_
  refine ct_reg ?_
  refine rl_val gw_none (ov_move rfl) rfl ?_
  refine rl_val gw_none (ov_move rfl) rfl ?_
  refine rl_callv gw_none goes108 rfl (fun w1 hp => areFactors_c _ _ _) rfl ?_
  refine rl_val gw_none (ov_not rfl) rfl ?_
  refine rl_nil ?_
  refine at_then ?_
  first | refine ct_dec rfl (fun h1 => ?_) (fun h1 => ?_) | refine ct_ndec rfl (fun h1 => ?_) (fun h1 => ?_) | refine ct_eq rfl (fun h1 => ?_) (fun h1 => ?_) | refine ct_ne rfl (fun h1 => ?_) (fun h1 => ?_) | refine ct_not rfl (fun h1 => ?_) (fun h1 => ?_) | refine ct_cond rfl (fun h1 => ?_) (fun h1 => ?_)
  ·
    refine ct_seq ?_
    refine ct_reg ?_
    refine rl_val gw_none (ov_assign rfl) rfl ?_
    refine rl_val gw_none (ov_assign rfl) rfl ?_
    refine rl_nil ?_
    refine at_then ?_
    refine ct_ret ?_
    refine at_then_ret ?_
    refine at_ret2 Try.results45 (ro_tmp rfl) (ro_tmp rfl) (fun w1 hp => ?_)
    refine ⟨?_, hp.ext0⟩
    first | (rw [timR_yes hB, hB]; first | done | rfl) | (rw [timR_no (show timB a b = false by simpa using h1), show timB a b = false by simpa using h1]; first | done | rfl)
  ·
    have hB : timB a b = true := by simpa using h1
    have hab := timB_ok hB
    refine ct_skip ?_
    refine at_then ?_
    refine ct_seq ?_
    refine ct_reg ?_
    refine rl_callsl (ι := Nat × List Value) (fun i bo => .tuple #[.agg [.int .i64 1, .int .i64 4, sv bo (showL 0 8).length i.1].toArray, .bool true]) (fun i => flat encIntA2 (showL 0 8) ++ i.2) (fun i bo => Sl 2 bo (showL 0 8).length i.1 (flat encIntA2 (showL 0 8)) i.2) goes48 rfl (fun w1 hp => for1480 _) rfl (fun iow boow hsow => ?_)
    obtain ⟨bow, rfl⟩ := slSomeG hsow (by rw [showL_len]; decide)
    refine rl_val gw_none (ov_move rfl) rfl ?_
    refine rl_val gw_none (ov_extract rfl rfl) rfl ?_
    refine rl_val gw_none (ov_extract rfl rfl) rfl ?_
    refine rl_alloc ze26 rfl (fun N1 => ?_)
    refine rl_store [] sz26 rfl rfl rfl rfl rfl (Nat.le_of_ble_eq_true rfl) ?_
    refine rl_val gw_none (ov_assign rfl) rfl ?_
    refine rl_nil ?_
    refine at_then ?_
    refine ct_seq ?_
    refine ct_reg ?_
    refine rl_val gw_none (ov_assign rfl) rfl ?_
    refine rl_nil ?_
    refine at_then ?_
    refine ct_seq ?_
    refine ct_seq ?_
    refine ct_reg ?_
    refine rl_val gw_none (ov_move rfl) rfl ?_
    refine rl_val gw_none (ov_move rfl) rfl ?_
    refine rl_callsl (ι := Nat × List Value) (fun i bo => sv bo (parts a b).length i.1) (fun i => flat encIntA3 (parts a b) ++ i.2) (fun i bo => Sl 3 bo (parts a b).length i.1 (flat encIntA3 (parts a b)) i.2) goes109 rfl (fun w1 hp => partsOf_c a b _ hab.1 hab.2) rfl (fun ipp bopp hspp => ?_)
    refine rl_val gw_none (ov_len Try.underlying100 rfl) rfl ?_
    refine rl_val gw_none (ov_move rfl) rfl ?_
    refine rl_nil ?_
    refine at_then ?_
    refine ct_block ?_
    refine ct_loopR (ι := Nat × Nat × Nat × List Value) (fun p0 => [(8, .int .i64 ((timS (parts a b) p0.1).2 : Nat)), (25, .int .i64 p0.1)]) [(6, _), (23, _), (24, _)] (fun p0 => [(some N1, 26, [.int .i64 1, .int .i64 4, sv (some p0.2.1) (timS (parts a b) p0.1).1.length p0.2.2.1]), (some p0.2.1, 81, flat encIntA2 (timS (parts a b) p0.1).1 ++ p0.2.2.2), _]) (fun p0 => p0.1 ≤ (parts a b).length ∧ Sl 2 (some p0.2.1) (timS (parts a b) p0.1).1.length p0.2.2.1 (flat encIntA2 (timS (parts a b) p0.1).1) p0.2.2.2) (fun p0 => (parts a b).length - p0.1) ((0, bow, iow.1, iow.2)) (Sub.cons rfl (Sub.cons rfl (Sub.cons rfl Sub.nil))) (fun _ hp => ((Hp.sub (Hp.pull (Hp.pull (Hp.pull hp 0 rfl) 2 rfl) 2 rfl) (List.sublist_append_left [_, _, _] _))).cong rfl) (by (repeat' (first | exact Sub.nil | refine Sub.cons ?_ ?_)); all_goals (first | rfl | exact lkInt rfl (by omega))) ⟨Nat.zero_le _, hsow⟩ (fun p0 hp0 => ?_)
    obtain ⟨k, br0, rc0, rp0⟩ := p0
    obtain ⟨hk, hsr0⟩ := hp0
    dsimp only at hk hsr0 ⊢
    have hgk := timS_good hab.1 hab.2 k hk
    have hpl := parts_len a b
    refine ct_seq ?_
    refine ct_reg ?_
    refine rl_val gw_none (ov_lss rfl rfl) rfl ?_
    refine rl_nil ?_
    refine at_then ?_
    refine ct_seq ?_
    first | refine ct_dec rfl (fun h2 => ?_) (fun h2 => ?_) | refine ct_ndec rfl (fun h2 => ?_) (fun h2 => ?_) | refine ct_eq rfl (fun h2 => ?_) (fun h2 => ?_) | refine ct_ne rfl (fun h2 => ?_) (fun h2 => ?_) | refine ct_not rfl (fun h2 => ?_) (fun h2 => ?_) | refine ct_cond rfl (fun h2 => ?_) (fun h2 => ?_)
    ·
      have hk2 : k < (parts a b).length := by omega
      obtain ⟨bp0, rfl⟩ := slSomeG hspp (by omega)
      have hp3 := getLt hk2
      have hca := timS_can hab.1 hab.2 hp3
      have hok := parts_ok a b _ (List.getElem_mem hk2)
      generalize (parts a b)[k] = p at *
      have hob := hok
      unfold okP at hob
      have hss := timS_succ hp3
      have hcb := cnt3_bd hok
      unfold cnt3 at hcb
      have hq4 := addN_good hgk.1 hca.2.1 (addNB_ok hca.1).2.2 _ (Nat.le_refl _)
      refine ct_skip ?_
      refine at_then ?_
      refine ct_seq ?_
      refine ct_block ?_
      refine ct_seq ?_
      refine ct_reg ?_
      first | refine rl_val gw_none (ov_ix Try.underlying100 sz103 rfl rfl _ rfl (by omega)) rfl ?_ | refine rl_val gw_none (ov_ix Try.underlying100 sz103 rfl rfl (k) (by omega) (by omega)) rfl ?_
      refine rl_val gw_none (ov_loada 2 ag103 rfl rfl (vs := encIntA3 p) rfl (flatCells encIntA3_len hp3 _)) rfl ?_
      refine rl_alloc ze103 rfl (fun N2 => ?_)
      refine rl_store [] sz103 rfl rfl rfl rfl rfl (Nat.le_of_ble_eq_true rfl) ?_
      refine rl_nil ?_
      refine at_then ?_
      refine ct_seq ?_
      refine ct_dre 8 [0, 1, 2, 3, 4, 5, 6, 7, 8] [3] (by kernel_rfl) (by kernel_rfl) ?_
      first | refine qe_val rfl gw_none (ov_loadall 1 ag26 rfl rfl rfl) rfl ?_ | refine qe_val rfl gw_none (ov_loadp 1 ag26 rfl rfl (vs := [_, _, _]) rfl rfl) rfl ?_ | refine qe_val rfl gw_none (ov_loada 1 ag26 rfl rfl rfl (by assumption)) rfl ?_
      first | refine qe_val rfl gw_none (ov_loadall 0 ag103 rfl rfl rfl) rfl ?_ | refine qe_val rfl gw_none (ov_loadp 0 ag103 rfl rfl (vs := [_, _, _]) rfl rfl) rfl ?_ | refine qe_val rfl gw_none (ov_loada 0 ag103 rfl rfl rfl (by assumption)) rfl ?_
      refine qe_callv rfl gw_none goes110 rfl (fun w1 hp => counts_c p _ hok) rfl ?_
      refine qe_calle (ι := Nat × Nat × Nat × List Value × Option Nat × Nat × List Value × List BeadMove) (fun q => .tuple #[.pointer (some ⟨q.1, 0, none⟩), .bool true]) (fun q => [(some q.1, 91, [.int .i64 1, .int .i64 4, sv (some q.2.1) ((addN (timS (parts a b) k).1 (cnt3 p) (timS (parts a b) k).1.length).1).length q.2.2.1, sv q.2.2.2.2.1 (q.2.2.2.2.2.2.2).length q.2.2.2.2.2.1, .int .i64 (((addN (timS (parts a b) k).1 (cnt3 p) (timS (parts a b) k).1.length).2 : Nat))]), (some q.2.1, 81, flat encIntA2 ((addN (timS (parts a b) k).1 (cnt3 p) (timS (parts a b) k).1.length).1) ++ q.2.2.2.1), (q.2.2.2.2.1, 128, flat encBeadMove (q.2.2.2.2.2.2.2) ++ q.2.2.2.2.2.2.1)]) (fun q => Sl 2 (some q.2.1) ((addN (timS (parts a b) k).1 (cnt3 p) (timS (parts a b) k).1.length).1).length q.2.2.1 (flat encIntA2 ((addN (timS (parts a b) k).1 (cnt3 p) (timS (parts a b) k).1.length).1)) q.2.2.2.1 ∧ Sl 3 q.2.2.2.2.1 q.2.2.2.2.2.2.2.length q.2.2.2.2.2.1 (flat encBeadMove q.2.2.2.2.2.2.2) q.2.2.2.2.2.2.1) rfl goes96 rfl (fun w1 hp => addNumber_yes 1 4 (timS (parts a b) k).1 _ (cnt3 p) _ (by unfold In64; omega) (by unfold In64; omega) (frameB_G (goodB_f hgk.1)) (hp.slsr 2 rfl hsr0) (by unfold In64; omega) hca.1) rfl (fun qw hqw => ?_)
      obtain ⟨bw, br, rc, rp, bm, mc, mp, ms⟩ := qw
      obtain ⟨hsr2, hsm2⟩ := hqw
      try dsimp only at hsr2 hsm2 ⊢
      refine qe_val rfl gw_none (ov_move rfl) rfl ?_
      refine qe_val rfl gw_none (ov_extract rfl rfl) rfl ?_
      refine qe_val rfl gw_none (ov_extract rfl rfl) rfl ?_
      refine qe_val rfl gw_none (ov_assign rfl) rfl ?_
      refine qe_nil ?_
      refine rl_val gw_none (ov_assign rfl) rfl ?_
      refine rl_nil ?_
      refine at_then ?_
      refine ct_seq ?_
      refine ct_seq ?_
      refine ct_reg ?_
      refine rl_val gw_none (ov_move rfl) rfl ?_
      refine rl_val gw_none (ov_not rfl) rfl ?_
      refine rl_nil ?_
      refine at_then ?_
      first | refine ct_dec rfl (fun h3 => ?_) (fun h3 => ?_) | refine ct_ndec rfl (fun h3 => ?_) (fun h3 => ?_) | refine ct_eq rfl (fun h3 => ?_) (fun h3 => ?_) | refine ct_ne rfl (fun h3 => ?_) (fun h3 => ?_) | refine ct_not rfl (fun h3 => ?_) (fun h3 => ?_) | refine ct_cond rfl (fun h3 => ?_) (fun h3 => ?_)
      ·
        cases h3
      ·
        refine ct_skip ?_
        refine at_then ?_
        refine ct_seq ?_
        refine ct_reg ?_
        refine rl_val gw_none (ov_move rfl) rfl ?_
        refine rl_val gw_none (ov_move rfl) rfl ?_
        refine rl_val gw_none (ov_nilc rfl) rfl ?_
        refine rl_val gw_none (ov_field fo91_2 rfl) rfl ?_
        first | refine rl_val gw_none (ov_load 0 sc3 rfl rfl rfl) rfl ?_ | refine rl_val gw_none (ov_load 0 sc3 rfl rfl (by assumption)) rfl ?_
        refine rl_val gw_none (ov_add rfl rfl (by omega)) rfl ?_
        refine rl_val gw_none (ov_assign rfl) rfl ?_
        refine rl_nil ?_
        refine at_then ?_
        refine ct_reg ?_
        refine rl_val gw_none (ov_move rfl) rfl ?_
        refine rl_val gw_none (ov_nilc rfl) rfl ?_
        refine rl_val gw_none (ov_field fo91_0 rfl) rfl ?_
        first | refine rl_val gw_none (ov_loadall 0 ag26 rfl rfl rfl) rfl ?_ | refine rl_val gw_none (ov_loadp 0 ag26 rfl rfl (vs := [_, _, _]) rfl rfl) rfl ?_ | refine rl_val gw_none (ov_loada 0 ag26 rfl rfl rfl (by assumption)) rfl ?_
        refine rl_store [_, _, _, _] sz26 rfl rfl rfl rfl rfl (Nat.le_of_ble_eq_true rfl) ?_
        refine rl_nil ?_
        refine at_block ?_
        refine at_then ?_
        refine ct_reg ?_
        refine rl_val gw_none (ov_add rfl rfl (by omega)) rfl ?_
        refine rl_val gw_none (ov_move rfl) rfl ?_
        refine rl_nil ?_
        exact at_backR (k + 1, br, rc, rp) ⟨hk2, by dsimp only; rw [hss]; exact hsr2⟩ (by dsimp only; omega) (by dsimp only; rw [hss]; (repeat' (first | exact Sub.nil | refine Sub.cons ?_ ?_)); all_goals (first | rfl | exact lkInt rfl (by first | omega | (dsimp only; omega) | (push_cast; omega)))) (Sub.cons rfl (Sub.cons rfl (Sub.cons rfl Sub.nil))) (fun _ hp => ((Hp.sub (Hp.pull (Hp.pull (Hp.pull hp 6 rfl) 2 rfl) 5 rfl) (List.sublist_append_left [_, _, _] _))).cong (by dsimp only; rw [hss]; try rfl))
    ·
      have hke : k = (parts a b).length := by omega
      subst hke
      refine ct_exit ?_
      refine at_then_exit ?_
      refine at_then_exit ?_
      refine at_block_hit ?_
      refine at_then ?_
      refine ct_seq ?_
      refine ct_reg ?_
      refine rl_val gw_none (ov_move rfl) rfl ?_
      refine rl_val gw_none (ov_assign rfl) rfl ?_
      refine rl_val gw_none (ov_assign rfl) rfl ?_
      refine rl_nil ?_
      refine at_then ?_
      refine ct_ret ?_
      refine at_ret2 Try.results45 (ro_tmp rfl) (ro_tmp rfl) (fun w1 hp => ?_)
      refine ⟨?_, hp.ext0⟩
      first | (rw [timR_yes hB, hB]; first | done | rfl) | (rw [timR_no (show timB a b = false by simpa using h1), show timB a b = false by simpa using h1]; first | done | rfl)

theorem sTimesCarries_c (a b : Int) (w : World) (za : In64 a) (zb : In64 b) : Calls Try.prog 44 ([.int .i64 a, .int .i64 b]).toArray w (fun e w' => e = .returned (.tuple #[.int .i64 (timR a b), .bool (timB a b)]) ∧ Ext w w') := by
  refine calls_ct Try.func44 Try.ntmps44 rfl rfl ?_
  refine ct_seq ?_
  refine ct_reg ?_
  refine rl_val gw_none (ov_assign rfl) rfl ?_
  refine rl_val gw_none (ov_assign rfl) rfl ?_
  refine rl_nil ?_
  refine at_then ?_
  refine ct_seq ?_
  refine ct_seq ?_
  refine ct_reg ?_
  refine rl_val gw_none (ov_move rfl) rfl ?_
  refine rl_val gw_none (ov_move rfl) rfl ?_
  refine rl_callv gw_none goes104 rfl (fun w1 hp => l9Both_c _ _ _) rfl ?_
  refine rl_val gw_none (ov_not rfl) rfl ?_
  refine rl_nil ?_
  refine at_then ?_
  first | refine ct_dec rfl (fun h1 => ?_) (fun h1 => ?_) | refine ct_ndec rfl (fun h1 => ?_) (fun h1 => ?_) | refine ct_eq rfl (fun h1 => ?_) (fun h1 => ?_) | refine ct_ne rfl (fun h1 => ?_) (fun h1 => ?_) | refine ct_not rfl (fun h1 => ?_) (fun h1 => ?_) | refine ct_cond rfl (fun h1 => ?_) (fun h1 => ?_)
  ·
    refine ct_seq ?_
    refine ct_reg ?_
    refine rl_val gw_none (ov_assign rfl) rfl ?_
    refine rl_val gw_none (ov_assign rfl) rfl ?_
    refine rl_nil ?_
    refine at_then ?_
    refine ct_ret ?_
    refine at_then_ret ?_
    refine at_ret2 Try.results44 (ro_tmp rfl) (ro_tmp rfl) (fun w1 hp => ?_)
    refine ⟨?_, hp.ext0⟩
    first | (rw [timR_yes hB, hB]; first | done | rfl) | (rw [timR_no (show timB a b = false by simpa using h1), show timB a b = false by simpa using h1]; first | done | rfl)
  ·
    have hB : timB a b = true := by simpa using h1
    have hab := timB_ok hB
    refine ct_skip ?_
    refine at_then ?_
    refine ct_seq ?_
    refine ct_reg ?_
    refine rl_val gw_none (ov_move rfl) rfl ?_
    refine rl_val gw_none (ov_move rfl) rfl ?_
    refine rl_callsl (ι := Nat × List Value) (fun i bo => sv bo (parts a b).length i.1) (fun i => flat encIntA3 (parts a b) ++ i.2) (fun i bo => Sl 3 bo (parts a b).length i.1 (flat encIntA3 (parts a b)) i.2) goes105 rfl (fun w1 hp => l9Parts_c a b _ hab.1 hab.2) rfl (fun ipp bopp hspp => ?_)
    refine rl_callsl (ι := Nat × List Value) (fun i bo => .agg [.int .i64 1, .int .i64 4, sv bo 8 i.1].toArray) (fun i => flat encIntA2 (showL 0 8) ++ i.2) (fun i bo => Sl 2 bo 8 i.1 (flat encIntA2 (showL 0 8)) i.2) goes106 rfl (fun w1 hp => l2For_c 1 4 8 0 8 _ rfl (by omega) (by omega)) rfl (fun iow boow hsow => ?_)
    obtain ⟨bow, rfl⟩ := slSomeG hsow (by decide)
    have h8l := showL_len 0 8
    refine rl_alloc ze26 rfl (fun N1 => ?_)
    refine rl_val gw_none (ov_assign rfl) rfl ?_
    refine rl_val gw_none (ov_assign rfl) rfl ?_
    refine rl_store [] sz26 rfl rfl rfl rfl rfl (Nat.le_of_ble_eq_true rfl) ?_
    refine rl_nil ?_
    refine at_then ?_
    refine ct_seq ?_
    refine ct_seq ?_
    refine ct_reg ?_
    refine rl_val gw_none (ov_assign rfl) rfl ?_
    refine rl_nil ?_
    refine at_then ?_
    refine ct_block ?_
    refine ct_loopR (ι := Nat × Nat × Nat × List Value) (fun p0 => [(7, .int .i64 ((timS (parts a b) p0.1).2 : Nat)), (9, .int .i64 p0.1)]) [(4, _), (5, _), (6, _), (8, _)] (fun p0 => [(some N1, 26, [.int .i64 1, .int .i64 4, sv (some p0.2.1) (timS (parts a b) p0.1).1.length p0.2.2.1]), (some p0.2.1, 81, flat encIntA2 (timS (parts a b) p0.1).1 ++ p0.2.2.2), _]) (fun p0 => p0.1 ≤ (parts a b).length ∧ Sl 2 (some p0.2.1) (timS (parts a b) p0.1).1.length p0.2.2.1 (flat encIntA2 (timS (parts a b) p0.1).1) p0.2.2.2) (fun p0 => (parts a b).length - p0.1) ((0, bow, iow.1, iow.2)) (Sub.cons rfl (Sub.cons rfl (Sub.cons rfl (Sub.cons rfl Sub.nil)))) (fun _ hp => ((Hp.sub (Hp.pull (Hp.pull (Hp.pull hp 2 rfl) 2 rfl) 2 rfl) (List.sublist_append_left [_, _, _] _))).cong (by dsimp only [timS]; rw [h8l]; rfl)) (by (repeat' (first | exact Sub.nil | refine Sub.cons ?_ ?_)); all_goals (first | rfl | exact lkInt rfl (by omega))) ⟨Nat.zero_le _, by dsimp only [timS]; rw [h8l]; exact hsow⟩ (fun p0 hp0 => ?_)
    obtain ⟨k, br0, rc0, rp0⟩ := p0
    obtain ⟨hk, hsr0⟩ := hp0
    dsimp only at hk hsr0 ⊢
    have hgk := timS_good hab.1 hab.2 k hk
    have hpl := parts_len a b
    refine ct_seq ?_
    refine ct_seq ?_
    refine ct_reg ?_
    refine rl_val gw_none (ov_move rfl) rfl ?_
    refine rl_val gw_none (ov_move rfl) rfl ?_
    refine rl_val gw_none (ov_len Try.underlying100 rfl) rfl ?_
    refine rl_val gw_none (ov_lss rfl rfl) rfl ?_
    refine rl_nil ?_
    refine at_then ?_
    first | refine ct_dec rfl (fun h2 => ?_) (fun h2 => ?_) | refine ct_ndec rfl (fun h2 => ?_) (fun h2 => ?_) | refine ct_eq rfl (fun h2 => ?_) (fun h2 => ?_) | refine ct_ne rfl (fun h2 => ?_) (fun h2 => ?_) | refine ct_not rfl (fun h2 => ?_) (fun h2 => ?_) | refine ct_cond rfl (fun h2 => ?_) (fun h2 => ?_)
    ·
      have hk2 : k < (parts a b).length := by omega
      obtain ⟨bp0, rfl⟩ := slSomeG hspp (by omega)
      have hp3 := getLt hk2
      have hca := timS_can hab.1 hab.2 hp3
      have hok := parts_ok a b _ (List.getElem_mem hk2)
      generalize (parts a b)[k] = p at *
      have hob := hok
      unfold okP at hob
      have hss := timS_succ hp3
      have hcb := cnt3_bd hok
      unfold cnt3 at hcb
      have hq4 := addN_good hgk.1 hca.2.1 (addNB_ok hca.1).2.2 _ (Nat.le_refl _)
      refine ct_skip ?_
      refine at_then ?_
      refine ct_seq ?_
      refine ct_block ?_
      refine ct_seq ?_
      refine ct_dr 19 (by kernel_rfl) (by kernel_rfl) ?_
      refine ql_val gw_none (ov_move rfl) rfl ?_
      refine ql_val gw_none (ov_move rfl) rfl ?_
      first | refine ql_val gw_none (ov_ix Try.underlying100 sz103 rfl rfl _ rfl (by omega)) rfl ?_ | refine ql_val gw_none (ov_ix Try.underlying100 sz103 rfl rfl (k) (by omega) (by omega)) rfl ?_ | refine ql_val gw_none (ov_ix Try.underlying100 sz103 rfl rfl (0) (by omega) (by omega)) rfl ?_ | refine ql_val gw_none (ov_ix Try.underlying100 sz103 rfl rfl (1) (by omega) (by omega)) rfl ?_ | refine ql_val gw_none (ov_ix Try.underlying100 sz103 rfl rfl (2) (by omega) (by omega)) rfl ?_
      first | refine ql_val gw_none (ov_ixa Try.underlying103 sz3 rfl rfl _ rfl (by omega)) rfl ?_ | refine ql_val gw_none (ov_ixa Try.underlying103 sz3 rfl rfl (k) (by omega) (by omega)) rfl ?_ | refine ql_val gw_none (ov_ixa Try.underlying103 sz3 rfl rfl (0) (by omega) (by omega)) rfl ?_ | refine ql_val gw_none (ov_ixa Try.underlying103 sz3 rfl rfl (1) (by omega) (by omega)) rfl ?_ | refine ql_val gw_none (ov_ixa Try.underlying103 sz3 rfl rfl (2) (by omega) (by omega)) rfl ?_
      refine ql_val gw_none (ov_load 2 sc3 rfl rfl (flatGetG encIntA3_len (f := 2) hp3 rfl _)) rfl ?_
      refine ql_val gw_none (ov_move rfl) rfl ?_
      refine ql_val gw_none (ov_move rfl) rfl ?_
      first | refine ql_val gw_none (ov_ix Try.underlying100 sz103 rfl rfl _ rfl (by omega)) rfl ?_ | refine ql_val gw_none (ov_ix Try.underlying100 sz103 rfl rfl (k) (by omega) (by omega)) rfl ?_ | refine ql_val gw_none (ov_ix Try.underlying100 sz103 rfl rfl (0) (by omega) (by omega)) rfl ?_ | refine ql_val gw_none (ov_ix Try.underlying100 sz103 rfl rfl (1) (by omega) (by omega)) rfl ?_ | refine ql_val gw_none (ov_ix Try.underlying100 sz103 rfl rfl (2) (by omega) (by omega)) rfl ?_
      first | refine ql_val gw_none (ov_ixa Try.underlying103 sz3 rfl rfl _ rfl (by omega)) rfl ?_ | refine ql_val gw_none (ov_ixa Try.underlying103 sz3 rfl rfl (k) (by omega) (by omega)) rfl ?_ | refine ql_val gw_none (ov_ixa Try.underlying103 sz3 rfl rfl (0) (by omega) (by omega)) rfl ?_ | refine ql_val gw_none (ov_ixa Try.underlying103 sz3 rfl rfl (1) (by omega) (by omega)) rfl ?_ | refine ql_val gw_none (ov_ixa Try.underlying103 sz3 rfl rfl (2) (by omega) (by omega)) rfl ?_
      refine ql_val gw_none (ov_load 2 sc3 rfl rfl (flatGetG encIntA3_len (f := 0) hp3 rfl _)) rfl ?_
      refine ql_val gw_none (ov_move rfl) rfl ?_
      refine ql_val gw_none (ov_move rfl) rfl ?_
      first | refine ql_val gw_none (ov_ix Try.underlying100 sz103 rfl rfl _ rfl (by omega)) rfl ?_ | refine ql_val gw_none (ov_ix Try.underlying100 sz103 rfl rfl (k) (by omega) (by omega)) rfl ?_ | refine ql_val gw_none (ov_ix Try.underlying100 sz103 rfl rfl (0) (by omega) (by omega)) rfl ?_ | refine ql_val gw_none (ov_ix Try.underlying100 sz103 rfl rfl (1) (by omega) (by omega)) rfl ?_ | refine ql_val gw_none (ov_ix Try.underlying100 sz103 rfl rfl (2) (by omega) (by omega)) rfl ?_
      first | refine ql_val gw_none (ov_ixa Try.underlying103 sz3 rfl rfl _ rfl (by omega)) rfl ?_ | refine ql_val gw_none (ov_ixa Try.underlying103 sz3 rfl rfl (k) (by omega) (by omega)) rfl ?_ | refine ql_val gw_none (ov_ixa Try.underlying103 sz3 rfl rfl (0) (by omega) (by omega)) rfl ?_ | refine ql_val gw_none (ov_ixa Try.underlying103 sz3 rfl rfl (1) (by omega) (by omega)) rfl ?_ | refine ql_val gw_none (ov_ixa Try.underlying103 sz3 rfl rfl (2) (by omega) (by omega)) rfl ?_
      refine ql_val gw_none (ov_load 2 sc3 rfl rfl (flatGetG encIntA3_len (f := 1) hp3 rfl _)) rfl ?_
      refine ql_val gw_none (ov_add rfl rfl (by omega)) rfl ?_
      refine ql_callv gw_none goes107 rfl (fun w1 hp => l2Power_c _ (p.a + p.b).toNat _ (by omega) (by omega)) rfl ?_
      refine ql_val gw_none (ov_mul rfl rfl (by omega)) rfl ?_
      refine ql_val gw_none (ov_assign rfl) rfl ?_
      refine ql_nil ?_
      refine rl_nil ?_
      refine at_then ?_
      refine ct_seq ?_
      refine ct_reg ?_
      first | refine rl_val gw_none (ov_loadall 0 ag26 rfl rfl rfl) rfl ?_ | refine rl_val gw_none (ov_loadp 0 ag26 rfl rfl (vs := [_, _, _]) rfl rfl) rfl ?_ | refine rl_val gw_none (ov_loada 0 ag26 rfl rfl rfl (by assumption)) rfl ?_
      refine rl_val gw_none (ov_move rfl) rfl ?_
      refine rl_callv gw_none goes33 rfl (fun w1 hp => sCarries_y 1 4 (timS (parts a b) k).1 (cnt3 p) _ _ (by unfold In64; omega) (by unfold In64; omega) (frameB_G (goodB_f hgk.1)) (hp.slsr 1 rfl hsr0) (by unfold In64; omega) hca.1) rfl ?_
      refine rl_val gw_none (ov_move rfl) rfl ?_
      refine rl_val gw_none (ov_extract rfl rfl) rfl ?_
      refine rl_val gw_none (ov_extract rfl rfl) rfl ?_
      refine rl_val gw_none (ov_assign rfl) rfl ?_
      refine rl_val gw_none (ov_assign rfl) rfl ?_
      refine rl_nil ?_
      refine at_then ?_
      refine ct_seq ?_
      refine ct_reg ?_
      refine rl_val gw_none (ov_move rfl) rfl ?_
      refine rl_val gw_none (ov_move rfl) rfl ?_
      refine rl_val gw_none (ov_add rfl rfl (by omega)) rfl ?_
      refine rl_val gw_none (ov_assign rfl) rfl ?_
      refine rl_nil ?_
      refine at_then ?_
      refine ct_seq ?_
      refine ct_reg ?_
      first | refine rl_val gw_none (ov_loadall 0 ag26 rfl rfl rfl) rfl ?_ | refine rl_val gw_none (ov_loadp 0 ag26 rfl rfl (vs := [_, _, _]) rfl rfl) rfl ?_ | refine rl_val gw_none (ov_loada 0 ag26 rfl rfl rfl (by assumption)) rfl ?_
      refine rl_val gw_none (ov_move rfl) rfl ?_
      refine rl_calle (ι := (Option Nat × Nat × List Value × List BeadMove) × Nat × Nat × List Value) (fun q => .tuple #[sv q.1.1 q.1.2.2.2.length q.1.2.1, .agg [.int .i64 1, .int .i64 4, sv (some q.2.1) ((addN (timS (parts a b) k).1 (cnt3 p) (timS (parts a b) k).1.length).1).length q.2.2.1].toArray]) (fun q => [(q.1.1, 128, flat encBeadMove q.1.2.2.2 ++ q.1.2.2.1), (some q.2.1, 81, flat encIntA2 ((addN (timS (parts a b) k).1 (cnt3 p) (timS (parts a b) k).1.length).1) ++ q.2.2.2)]) (fun q => Sl 3 q.1.1 q.1.2.2.2.length q.1.2.1 (flat encBeadMove q.1.2.2.2) q.1.2.2.1 ∧ q.1.2.2.2.length ≤ 200 ∧ Sl 2 (some q.2.1) ((addN (timS (parts a b) k).1 (cnt3 p) (timS (parts a b) k).1.length).1).length q.2.2.1 (flat encIntA2 ((addN (timS (parts a b) k).1 (cnt3 p) (timS (parts a b) k).1.length).1)) q.2.2.2) goes103 rfl (fun w1 hp => l6Number_c 1 4 (timS (parts a b) k).1 _ (cnt3 p) _ (by unfold In64; omega) (by unfold In64; omega) (frameB_G (goodB_f hgk.1)) (hp.slsr 1 rfl hsr0) (by unfold In64; omega) hca.1) rfl (fun qd hqd => ?_)
      refine rl_val gw_none (ov_move rfl) rfl ?_
      refine rl_val gw_none (ov_extract rfl rfl) rfl ?_
      refine rl_val gw_none (ov_extract rfl rfl) rfl ?_
      refine rl_alloc ze26 rfl (fun N2 => ?_)
      refine rl_val gw_none (ov_assign rfl) rfl ?_
      refine rl_store [] sz26 rfl rfl rfl rfl rfl (Nat.le_of_ble_eq_true rfl) ?_
      refine rl_nil ?_
      refine at_then ?_
      refine ct_reg ?_
      first | refine rl_val gw_none (ov_loadall 0 ag26 rfl rfl rfl) rfl ?_ | refine rl_val gw_none (ov_loadp 0 ag26 rfl rfl (vs := [_, _, _]) rfl rfl) rfl ?_ | refine rl_val gw_none (ov_loada 0 ag26 rfl rfl rfl (by assumption)) rfl ?_
      refine rl_store [_, _, _] sz26 rfl rfl rfl rfl rfl (Nat.le_of_ble_eq_true rfl) ?_
      refine rl_nil ?_
      refine at_block ?_
      refine at_then ?_
      refine ct_reg ?_
      refine rl_val gw_none (ov_move rfl) rfl ?_
      refine rl_val gw_none (ov_add rfl rfl (by omega)) rfl ?_
      refine rl_val gw_none (ov_assign rfl) rfl ?_
      refine rl_nil ?_
      exact at_backR (k + 1, qd.2.1, qd.2.2.1, qd.2.2.2) ⟨hk2, by dsimp only; rw [hss]; exact hqd.2.2⟩ (by dsimp only; omega) (by dsimp only; rw [hss]; (repeat' (first | exact Sub.nil | refine Sub.cons ?_ ?_)); all_goals (first | rfl | exact lkInt rfl (by first | omega | (dsimp only; omega) | (push_cast; omega)))) (Sub.cons rfl (Sub.cons rfl (Sub.cons rfl (Sub.cons rfl Sub.nil)))) (fun _ hp => ((Hp.sub (Hp.pull (Hp.pull (Hp.pull hp 5 rfl) 3 rfl) 4 rfl) (List.sublist_append_left [_, _, _] _))).cong (by dsimp only; rw [hss]; try rfl))
    ·
      have hke : k = (parts a b).length := by omega
      subst hke
      refine ct_exit ?_
      refine at_then_exit ?_
      refine at_then_exit ?_
      refine at_block_hit ?_
      refine at_then ?_
      refine ct_seq ?_
      refine ct_reg ?_
      refine rl_val gw_none (ov_move rfl) rfl ?_
      refine rl_val gw_none (ov_assign rfl) rfl ?_
      refine rl_val gw_none (ov_assign rfl) rfl ?_
      refine rl_nil ?_
      refine at_then ?_
      refine ct_ret ?_
      refine at_ret2 Try.results44 (ro_tmp rfl) (ro_tmp rfl) (fun w1 hp => ?_)
      refine ⟨?_, hp.ext0⟩
      first | (rw [timR_yes hB, hB]; first | done | rfl) | (rw [timR_no (show timB a b = false by simpa using h1), show timB a b = false by simpa using h1]; first | done | rfl)
end Go.Proofs.Ytnnhkpecgchgiaa
