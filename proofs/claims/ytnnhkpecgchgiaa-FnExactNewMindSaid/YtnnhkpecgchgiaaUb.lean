import Derived.Test.YtnnhkpecgchgiaaUa
import Derived.Test.YtnnhkpecgchgiaaTd
import Derived.KernelRfl
set_option linter.unusedVariables false
set_option linter.unusedSimpArgs false
namespace Go.Proofs.Ytnnhkpecgchgiaa
open Go Go.RowKit K
theorem begin_yes (u : Int) (l : Int) (xs : List IntA2) (vxs : Value) (w : World) (zu : In64 u) (zl : In64 l) (hGxs : ∀ y ∈ xs, GIntA2 y) (hsxs : SR w 2 vxs xs.length (flat encIntA2 xs)) (hg : goodB u l xs = true) : Calls Try.prog 77 ([.agg (List.toArray (α := Value) [.int .i64 u, .int .i64 l, vxs])]).toArray w (fun e w' => ∃ q : Nat × Nat × Nat × List Value, Sl 2 (some q.2.1) xs.length q.2.2.1 (flat encIntA2 xs) q.2.2.2 ∧ e = .returned (.tuple #[.pointer (some ⟨q.1, 0, none⟩), .bool true]) ∧ Hp ⟨w, []⟩ [(some q.1, 91, [.int .i64 u, .int .i64 l, sv (some q.2.1) (xs).length q.2.2.1, sv none (([] : List BeadMove)).length 0, .int .i64 (0)]), (some q.2.1, 81, flat encIntA2 (xs) ++ q.2.2.2), (none, 128, flat encBeadMove (([] : List BeadMove)) ++ ([] : List Value))] w') := by
  obtain ⟨axs, capxs, rfl, hcapxs, hmaxxs⟩ := hsxs.slice
  have hlenxs := hsxs.len_le
  have hf := goodB_f hg
  have hs := goodB_s hg
  have h8 := (frameB_ul hf).2.2.2
  have hl1 := (frameB_ul hf).2.2.1
  refine calls_ct Try.func77 Try.ntmps77 rfl rfl ?_
  refine ct_seq ?_
  refine ct_reg ?_
  refine rl_box rfl rfl (fun N1 => ?_)
  refine rl_val gw_none (ov_assign rfl) rfl ?_
  refine rl_val gw_none (ov_assign rfl) rfl ?_
  refine rl_nil ?_
  refine at_then ?_
  refine ct_seq ?_
  refine ct_seq ?_
  refine ct_reg ?_
  first | refine rl_val gw_none (ov_loadall 0 ag26 rfl rfl rfl) rfl ?_ | refine rl_val gw_none (ov_loadp 0 ag26 rfl rfl (vs := [_, _, _]) rfl rfl) rfl ?_ | refine rl_val gw_none (ov_loada 0 ag26 rfl rfl rfl (by assumption)) rfl ?_
  refine rl_callv gw_none goes113 rfl (fun w1 hp => iIsFrame_c u l xs _ _ zu zl hGxs (hsxs.ext hp.ext0)) rfl ?_
  refine rl_val gw_none (ov_not rfl) rfl ?_
  refine rl_val gw_none (ov_move rfl) rfl ?_
  refine rl_split (t := 7) rfl (fun g1 => ?_) (fun g1 => ?_)
  ·
    rw [hf] at g1; cases g1
  ·
    have g1' := g1
    try simp only [Bool.not_eq_true', Bool.not_eq_false', Bool.not_not, decide_eq_true_eq, decide_eq_false_iff_not, beq_iff_eq, beq_eq_false_iff_ne, bne_iff_ne, bne_eq_false_iff_eq, Bool.and_eq_true, Bool.or_eq_true, Bool.and_eq_false_iff, Bool.or_eq_false_iff, inB] at g1'
    first | refine rl_val (gw_some rfl rfl g1) (ov_loadall 0 ag26 rfl rfl rfl) rfl ?_ | refine rl_val (gw_some rfl rfl g1) (ov_loadp 0 ag26 rfl rfl (vs := [_, _, _]) rfl rfl) rfl ?_ | refine rl_val (gw_some rfl rfl g1) (ov_loada 0 ag26 rfl rfl rfl (by assumption)) rfl ?_
    refine rl_callv (gw_some rfl rfl g1) goes133 rfl (fun w1 hp => standard_c u l xs _ _ zu zl hGxs (hsxs.ext hp.ext0)) rfl ?_
    refine rl_val (gw_some rfl rfl g1) (ov_not rfl) rfl ?_
    refine rl_val gw_none (ov_pick_f rfl g1 rfl) rfl ?_
    refine rl_nil ?_
    refine at_then ?_
    first | refine ct_dec rfl (fun h1 => ?_) (fun h1 => ?_) | refine ct_ndec rfl (fun h1 => ?_) (fun h1 => ?_) | refine ct_eq rfl (fun h1 => ?_) (fun h1 => ?_) | refine ct_ne rfl (fun h1 => ?_) (fun h1 => ?_) | refine ct_not rfl (fun h1 => ?_) (fun h1 => ?_) | refine ct_cond rfl (fun h1 => ?_) (fun h1 => ?_)
    ·
      rw [hs] at h1; cases h1
    ·
      refine ct_skip ?_
      refine at_then ?_
      refine ct_seq ?_
      refine ct_reg ?_
      first | refine rl_val gw_none (ov_loadall 0 ag26 rfl rfl rfl) rfl ?_ | refine rl_val gw_none (ov_loadp 0 ag26 rfl rfl (vs := [_, _, _]) rfl rfl) rfl ?_ | refine rl_val gw_none (ov_loada 0 ag26 rfl rfl rfl (by assumption)) rfl ?_
      refine rl_callsl (ι := Nat × List Value) (fun i bo => .agg [.int .i64 u, .int .i64 l, sv bo (xs).length i.1].toArray) (fun i => flat encIntA2 (xs) ++ i.2) (fun i bo => Sl 2 bo (xs).length i.1 (flat encIntA2 (xs)) i.2) goes78 rfl (fun w1 hp => own_c u l xs _ _ zu zl hGxs (hsxs.ext hp.ext0) h8) rfl (fun iow boow hsow => ?_)
      obtain ⟨bow, rfl⟩ := Sl.some hsow (by omega)
      refine rl_val gw_none (ov_build rfl (bu91_0 _ _ _ _ _)) rfl ?_
      refine rl_box rfl rfl (fun N2 => ?_)
      refine rl_val gw_none (ov_assign rfl) rfl ?_
      refine rl_val gw_none (ov_assign rfl) rfl ?_
      refine rl_nil ?_
      refine at_then ?_
      refine ct_ret ?_
      refine at_ret2 Try.results77 (ro_tmp rfl) (ro_tmp rfl) (fun w1 hp => ?_)
      exact ⟨(N2, bow, iow.1, iow.2), hsow, rfl, (((((Hp.sub (Hp.pull (Hp.pull hp 1 rfl) 1 rfl) (List.sublist_append_left [_, _] _))).nil 128).pull 2 rfl).pull 2 rfl).cong rfl⟩

theorem digitsFor_c (u : Int) (l : Int) (xs : List IntA2) (vxs : Value) (n : Int) (w : World) (zu : In64 u) (zl : In64 l) (hGxs : ∀ y ∈ xs, GIntA2 y) (hsxs : SR w 2 vxs xs.length (flat encIntA2 xs)) (h8 : xs.length ≤ 8) (hn : 0 ≤ n ∧ n ≤ 1000000000) : Calls Try.prog 87 ([.agg (List.toArray (α := Value) [.int .i64 u, .int .i64 l, vxs]), .int .i64 n]).toArray w (fun e w' => RetSl 3 1 (ints (digL n xs.length)) xs.length (fun s => s) w e w') := by
  obtain ⟨axs, capxs, rfl, hcapxs, hmaxxs⟩ := hsxs.slice
  have hlenxs := hsxs.len_le
  have hdiv0 : n / p10 (xs.length - xs.length) = n := by rw [Nat.sub_self]; exact Int.ediv_one n
  refine calls_ct Try.func87 Try.ntmps87 rfl rfl ?_
  refine ct_seq ?_
  refine ct_reg ?_
  refine rl_box rfl rfl (fun N1 => ?_)
  refine rl_val gw_none (ov_assign rfl) rfl ?_
  refine rl_nil ?_
  refine at_then ?_
  refine ct_seq ?_
  refine ct_reg ?_
  refine rl_val gw_none (ov_field fo26_2 rfl) rfl ?_
  first | refine rl_val gw_none (ov_load 0 sc22 rfl rfl rfl) rfl ?_ | refine rl_val gw_none (ov_load 0 sc22 rfl rfl (by assumption)) rfl ?_
  refine rl_val gw_none (ov_len Try.underlying22 rfl) rfl ?_
  refine rl_make Try.underlying27 ze3 sz3 by3 rfl rfl (by omega) (by unfold maxLen; omega) rfl (fun N2 => ?_)
  refine rl_val gw_none (ov_assign rfl) rfl ?_
  refine rl_nil ?_
  refine at_then ?_
  refine ct_seq ?_
  refine ct_seq ?_
  refine ct_reg ?_
  refine rl_val gw_none (ov_move rfl) rfl ?_
  refine rl_val gw_none (ov_len Try.underlying27 rfl) rfl ?_
  refine rl_val gw_none (ov_sub rfl rfl (by omega)) rfl ?_
  refine rl_val gw_none (ov_assign rfl) rfl ?_
  refine rl_nil ?_
  refine at_then ?_
  refine ct_block ?_
  refine ct_loopR (ι := Nat) (fun p => [(1, .int .i64 (n / p10 (xs.length - p))), (6, .int .i64 ((p : Int) - 1))]) [(4, _), (5, _)] (fun p => [(some N2, 3, ints (downL (List.replicate xs.length (0 : Int)) (digL n xs.length) p))]) (fun p => p ≤ xs.length) (fun p => p) (xs.length) (Sub.cons rfl (Sub.cons rfl Sub.nil)) (fun _ hq => (hq.pick1 0 rfl).cong (by rw [← dig_all])) (by (repeat' (first | exact Sub.nil | refine Sub.cons ?_ ?_)); all_goals (first | rfl | exact lkInt rfl (by omega))) (by first | exact True.intro | omega | (dsimp only; omega) | (dsimp only at *; omega)) (fun p hp0 => ?_)
  have hdb := div_p10_bd hn.1 (xs.length - p)
  refine ct_seq ?_
  refine ct_seq ?_
  refine ct_reg ?_
  refine rl_val gw_none (ov_move rfl) rfl ?_
  refine rl_val gw_none (ov_geq rfl rfl) rfl ?_
  refine rl_nil ?_
  refine at_then ?_
  first | refine ct_dec rfl (fun h1 => ?_) (fun h1 => ?_) | refine ct_ndec rfl (fun h1 => ?_) (fun h1 => ?_) | refine ct_eq rfl (fun h1 => ?_) (fun h1 => ?_) | refine ct_ne rfl (fun h1 => ?_) (fun h1 => ?_) | refine ct_not rfl (fun h1 => ?_) (fun h1 => ?_) | refine ct_cond rfl (fun h1 => ?_) (fun h1 => ?_)
  ·
    obtain ⟨q, rfl⟩ : ∃ q, p = q + 1 := ⟨p - 1, by omega⟩
    have hdv : n / p10 (xs.length - (q + 1)) / 10 = n / p10 (xs.length - q) := (div_p10 n _).trans (by rw [show xs.length - (q + 1) + 1 = xs.length - q from by omega])
    refine ct_skip ?_
    refine at_then ?_
    refine ct_seq ?_
    refine ct_block ?_
    refine ct_seq ?_
    refine ct_reg ?_
    refine rl_val gw_none (ov_move rfl) rfl ?_
    refine rl_val gw_none (ov_move rfl) rfl ?_
    refine rl_val gw_none (ov_move rfl) rfl ?_
    refine rl_val gw_none (ov_rem rfl rfl (by omega) (by omega)) rfl ?_
    first | refine rl_val gw_none (ov_ix Try.underlying27 sz3 rfl rfl _ rfl (by omega)) rfl ?_ | refine rl_val gw_none (ov_ix Try.underlying27 sz3 rfl rfl (q) (by omega) (by omega)) rfl ?_
    refine rl_store [] sz3 rfl rfl rfl rfl rfl (by rw [ints_length, downL_len (by rw [digL_len]; simp)]; simp; omega) ?_
    refine rl_mem (fun _ hq => hq.cong (congrArg (fun x => (_, _, x) :: _) (dig_step (by omega)))) ?_
    refine rl_nil ?_
    refine at_then ?_
    refine ct_reg ?_
    refine rl_val gw_none (ov_move rfl) rfl ?_
    refine rl_val gw_none (ov_quo rfl rfl (by omega) (by omega) (by omega)) rfl ?_
    refine rl_val gw_none (ov_assign rfl) rfl ?_
    refine rl_nil ?_
    refine at_block ?_
    refine at_then ?_
    refine ct_reg ?_
    refine rl_val gw_none (ov_move rfl) rfl ?_
    refine rl_val gw_none (ov_sub rfl rfl (by omega)) rfl ?_
    refine rl_val gw_none (ov_assign rfl) rfl ?_
    refine rl_nil ?_
    exact at_backR q (by first | exact True.intro | omega | (dsimp only; omega) | (dsimp only at *; omega)) (by first | exact True.intro | omega | (dsimp only; omega) | (dsimp only at *; omega)) (by (repeat' (first | exact Sub.nil | refine Sub.cons ?_ ?_)); all_goals (first | rfl | exact lkInt rfl (by omega))) (Sub.cons rfl (Sub.cons rfl Sub.nil)) (fun _ hp => (Hp.sub (Hp.pull hp 0 rfl) (List.sublist_append_left [_] _)))
  ·
    obtain rfl : p = 0 := by omega
    refine ct_exit ?_
    refine at_then_exit ?_
    refine at_then_exit ?_
    refine at_block_hit ?_
    refine at_then ?_
    refine ct_seq ?_
    refine ct_reg ?_
    refine rl_val gw_none (ov_move rfl) rfl ?_
    refine rl_val gw_none (ov_assign rfl) rfl ?_
    refine rl_nil ?_
    refine at_then ?_
    refine ct_ret ?_
    refine at_ret1 Try.results87 (ro_tmp rfl) (fun w1 hp => ?_)
    simp only [downL_zero] at hp
    exact RetSl.lit 0 hp rfl (by rw [ints_length, digL_len, Nat.mul_one]) (by unfold maxLen; omega)
end Go.Proofs.Ytnnhkpecgchgiaa
