import Derived.Test.YtnnhkpecgchgiaaUb
import Derived.KernelRfl
set_option linter.unusedVariables false
set_option linter.unusedSimpArgs false
namespace Go.Proofs.Ytnnhkpecgchgiaa
open Go Go.RowKit K
def clr (n k : Nat) : List Int := List.replicate k 5 ++ List.replicate (n - k) 0
theorem clr_len {n k : Nat} (h : k ≤ n) : (clr n k).length = n := by simp [clr]; omega
theorem clr_zero (n : Nat) : clr n 0 = List.replicate n 0 := by simp [clr]
theorem clr_end (n : Nat) : clr n n = List.replicate n 5 := by simp [clr]
theorem clr_step {n k : Nat} (h : k < n) : (clr n k).set k 5 = clr n (k + 1) := by
  unfold clr
  rw [List.set_append, if_neg (by simp), List.length_replicate, Nat.sub_self, show n - k = (n - (k + 1)) + 1 by omega, List.replicate_succ, List.set_cons_zero, List.replicate_succ', List.append_assoc]; rfl
theorem clr_flat (n : Nat) : (List.replicate n [Value.int .i64 0]).flatten = ints (clr n 0) ++ [] := by
  rw [clr_zero]
  induction n with
  | zero => rfl
  | succ n ih => rw [List.replicate_succ, List.replicate_succ, List.flatten_cons, ih]; rfl

theorem looked_c (u : Int) (l : Int) (xs : List IntA2) (vxs : Value) (w : World) (zu : In64 u) (zl : In64 l) (hGxs : ∀ y ∈ xs, GIntA2 y) (hsxs : SR w 2 vxs xs.length (flat encIntA2 xs)) (hg : goodB u l xs = true) : Calls Try.prog 79 ([.agg (List.toArray (α := Value) [.int .i64 u, .int .i64 l, vxs, .slice none 0 0, .slice none 0 0, .int .i64 0, .int .i64 0])]).toArray w (fun e w' => ∃ q : (Nat × Nat × List Value) × (Nat × Nat × List Value), (Sl 1 (some q.1.1) xs.length q.1.2.1 (ints (List.replicate xs.length (5 : Int))) q.1.2.2 ∧ Sl 1 (some q.2.1) xs.length q.2.2.1 (ints (digL (numF xs) xs.length)) q.2.2.2) ∧ e = .returned (.agg (List.toArray (α := Value) [.int .i64 u, .int .i64 l, vxs, sv (some q.1.1) xs.length q.1.2.1, sv (some q.2.1) xs.length q.2.2.1, .int .i64 0, .int .i64 0])) ∧ Hp ⟨w, []⟩ [(some q.1.1, 3, ints (List.replicate xs.length (5 : Int)) ++ q.1.2.2), (some q.2.1, 3, ints (digL (numF xs) xs.length) ++ q.2.2.2)] w') := by
  obtain ⟨axs, capxs, rfl, hcapxs, hmaxxs⟩ := hsxs.slice
  have hlenxs := hsxs.len_le
  have hf := goodB_f hg
  have h8 := (frameB_ul hf).2.2.2
  have hl1 := (frameB_ul hf).2.2.1
  have hnm := goodB_num hg
  refine calls_ct Try.func79 Try.ntmps79 rfl rfl ?_
  refine ct_seq ?_
  refine ct_reg ?_
  refine rl_box rfl rfl (fun N1 => ?_)
  refine rl_alloc ze29 rfl (fun N2 => ?_)
  refine rl_nil ?_
  refine at_then ?_
  refine ct_seq ?_
  refine ct_dr 5 (by kernel_rfl) (by kernel_rfl) ?_
  refine ql_val gw_none (ov_field fo29_0 rfl) rfl ?_
  first | refine ql_val gw_none (ov_loadall 1 ag26 rfl rfl rfl) rfl ?_ | refine ql_val gw_none (ov_loadp 1 ag26 rfl rfl (vs := [_, _, _]) rfl rfl) rfl ?_ | refine ql_val gw_none (ov_loada 1 ag26 rfl rfl rfl (by assumption)) rfl ?_
  refine ql_val gw_none (ov_field fo29_0 rfl) rfl ?_
  first | refine ql_val gw_none (ov_loadall 1 ag26 rfl rfl rfl) rfl ?_ | refine ql_val gw_none (ov_loadp 1 ag26 rfl rfl (vs := [_, _, _]) rfl rfl) rfl ?_ | refine ql_val gw_none (ov_loada 1 ag26 rfl rfl rfl (by assumption)) rfl ?_
  refine ql_callv gw_none goes88 rfl (fun w1 hp => number_c u l xs _ _ zu zl hGxs (hsxs.ext hp.ext0) hf) rfl ?_
  refine ql_nil ?_
  refine rl_callsl (ι := Nat × List Value) (fun i bo => sv bo xs.length i.1) (fun i => ints (digL (numF xs) xs.length) ++ i.2) (fun i bo => Sl 1 bo xs.length i.1 (ints (digL (numF xs) xs.length)) i.2) goes87 rfl (fun w1 hp => digitsFor_c u l xs _ (numF xs) _ zu zl hGxs (hsxs.ext hp.ext0) h8 (by omega)) rfl (fun idg bodg hsdg => ?_)
  obtain ⟨bdg, rfl⟩ := slSomeG hsdg (by omega)
  refine rl_val gw_none (ov_field fo29_2 rfl) rfl ?_
  refine rl_store [_, _] sz27 rfl rfl rfl rfl rfl (Nat.le_of_ble_eq_true rfl) ?_
  refine rl_nil ?_
  refine at_then ?_
  refine ct_seq ?_
  refine ct_reg ?_
  refine rl_val gw_none (ov_field fo29_2 rfl) rfl ?_
  first | refine rl_val gw_none (ov_load 2 sc27 rfl rfl rfl) rfl ?_ | refine rl_val gw_none (ov_load 2 sc27 rfl rfl (by assumption)) rfl ?_
  refine rl_val gw_none (ov_len Try.underlying27 rfl) rfl ?_
  refine rl_make Try.underlying27 ze3 sz3 by3 rfl rfl (by omega) (by unfold maxLen; omega) rfl (fun N3 => ?_)
  refine rl_val gw_none (ov_field fo29_1 rfl) rfl ?_
  refine rl_store [_, _, _] sz27 rfl rfl rfl rfl rfl (Nat.le_of_ble_eq_true rfl) ?_
  refine rl_nil ?_
  refine at_then ?_
  refine ct_seq ?_
  refine ct_seq ?_
  refine ct_reg ?_
  refine rl_val gw_none (ov_field fo29_1 rfl) rfl ?_
  first | refine rl_val gw_none (ov_load 3 sc27 rfl rfl rfl) rfl ?_ | refine rl_val gw_none (ov_load 3 sc27 rfl rfl (by assumption)) rfl ?_
  refine rl_val gw_none (ov_len Try.underlying27 rfl) rfl ?_
  refine rl_val gw_none (ov_move rfl) rfl ?_
  refine rl_nil ?_
  refine at_then ?_
  refine ct_block ?_
  refine ct_loopR (ι := Nat) (fun k => [(19, .int .i64 k)]) [(1, _), (2, _), (18, _)] (fun k => [(some N3, 3, ints (clr xs.length k) ++ []), _, _, _]) (fun k => k ≤ xs.length) (fun k => xs.length - k) (0) (Sub.cons rfl (Sub.cons rfl (Sub.cons rfl Sub.nil))) (fun _ hp => ((Hp.sub (Hp.pull (Hp.pull (Hp.pull (Hp.pull hp 2 rfl) 3 rfl) 3 rfl) 3 rfl) (List.sublist_append_left [_, _, _, _] _))).cong (by rw [← clr_flat])) (by (repeat' (first | exact Sub.nil | refine Sub.cons ?_ ?_)); all_goals (first | rfl | exact lkInt rfl (by omega))) (by first | exact True.intro | omega | (dsimp only; omega) | (dsimp only at *; omega)) (fun k hk => ?_)
  refine ct_seq ?_
  refine ct_reg ?_
  refine rl_val gw_none (ov_lss rfl rfl) rfl ?_
  refine rl_nil ?_
  refine at_then ?_
  refine ct_seq ?_
  first | refine ct_dec rfl (fun h1 => ?_) (fun h1 => ?_) | refine ct_ndec rfl (fun h1 => ?_) (fun h1 => ?_) | refine ct_eq rfl (fun h1 => ?_) (fun h1 => ?_) | refine ct_ne rfl (fun h1 => ?_) (fun h1 => ?_) | refine ct_not rfl (fun h1 => ?_) (fun h1 => ?_) | refine ct_cond rfl (fun h1 => ?_) (fun h1 => ?_)
  ·
    have hk2 : k < xs.length := by omega
    refine ct_skip ?_
    refine at_then ?_
    refine ct_seq ?_
    refine ct_block ?_
    refine ct_seq ?_
    refine ct_reg ?_
    refine rl_val gw_none (ov_move rfl) rfl ?_
    refine rl_val gw_none (ov_assign rfl) rfl ?_
    refine rl_nil ?_
    refine at_then ?_
    refine ct_reg ?_
    refine rl_val gw_none (ov_field fo29_1 rfl) rfl ?_
    first | refine rl_val gw_none (ov_load 2 sc27 rfl rfl rfl) rfl ?_ | refine rl_val gw_none (ov_load 2 sc27 rfl rfl (by assumption)) rfl ?_
    refine rl_val gw_none (ov_move rfl) rfl ?_
    first | refine rl_val gw_none (ov_ix Try.underlying27 sz3 rfl rfl _ rfl (by omega)) rfl ?_ | refine rl_val gw_none (ov_ix Try.underlying27 sz3 rfl rfl (k) (by omega) (by omega)) rfl ?_
    refine rl_store [] sz3 rfl rfl rfl rfl rfl (by rw [List.length_append, ints_length, clr_len hk]; simp; omega) ?_
    refine rl_mem (fun _ hq => hq.cong (congrArg (fun x => (_, _, x) :: _) ((intsPutP 5 [] (by rw [clr_len hk]; exact hk2)).trans (by rw [clr_step hk2])))) ?_
    refine rl_nil ?_
    refine at_block ?_
    refine at_then ?_
    refine ct_reg ?_
    refine rl_val gw_none (ov_add rfl rfl (by omega)) rfl ?_
    refine rl_val gw_none (ov_move rfl) rfl ?_
    refine rl_nil ?_
    exact at_backR (k + 1) (by first | exact True.intro | omega | (dsimp only; omega) | (dsimp only at *; omega)) (by first | exact True.intro | omega | (dsimp only; omega) | (dsimp only at *; omega)) (by (repeat' (first | exact Sub.nil | refine Sub.cons ?_ ?_)); all_goals (first | rfl | exact lkInt rfl (by omega))) (Sub.cons rfl (Sub.cons rfl (Sub.cons rfl Sub.nil))) (fun _ hp => (Hp.sub (Hp.pull (Hp.pull (Hp.pull (Hp.pull hp 3 rfl) 3 rfl) 3 rfl) 3 rfl) (List.sublist_append_left [_, _, _, _] _)))
  ·
    have hke : k = xs.length := by omega
    subst hke
    refine ct_exit ?_
    refine at_then_exit ?_
    refine at_then_exit ?_
    refine at_block_hit ?_
    refine at_then ?_
    refine ct_seq ?_
    refine ct_reg ?_
    first | refine rl_val gw_none (ov_loadall 2 ag29 rfl rfl rfl) rfl ?_ | refine rl_val gw_none (ov_loadp 2 ag29 rfl rfl (vs := [_, _, _, _, _, _, _]) rfl rfl) rfl ?_ | refine rl_val gw_none (ov_loada 2 ag29 rfl rfl rfl (by assumption)) rfl ?_
    refine rl_store [_, _, _] sz29 rfl rfl rfl rfl rfl (Nat.le_of_ble_eq_true rfl) ?_
    refine rl_nil ?_
    refine at_then ?_
    refine ct_ret ?_
    refine at_ret1 Try.results79 (ro_cell 3 ag29 rfl rfl rfl) (fun w1 hp => ?_)
    exact ⟨((N3, xs.length, []), (bdg, idg.1, idg.2)), ⟨Sl.lit (by rw [ints_length, List.length_replicate, Nat.mul_one]) (by unfold maxLen; omega), hsdg⟩, rfl, ((Hp.sub (Hp.pull (Hp.pull hp 1 rfl) 1 rfl) (List.sublist_append_left [_, _] _))).cong (by rw [clr_end])⟩
end Go.Proofs.Ytnnhkpecgchgiaa
