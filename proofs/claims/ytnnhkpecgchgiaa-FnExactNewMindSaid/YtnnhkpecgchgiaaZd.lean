import Derived.Test.YtnnhkpecgchgiaaVa
import Derived.Test.YtnnhkpecgchgiaaZc
import Derived.KernelRfl
set_option linter.unusedVariables false
set_option linter.unusedSimpArgs false
namespace Go.Proofs.Ytnnhkpecgchgiaa
open Go Go.RowKit K
theorem markMind_o (u l k0 : Int) {bo1 bo2 bo3 : Option Nat} {n1 n2 n3 c1 c2 c3 : Nat} {L1 L2 L3 p1 p2 p3 : List Value} (hs1 : Sl 2 bo1 n1 c1 L1 p1) (hs2 : Sl 1 bo2 n2 c2 L2 p2) (hs3 : Sl 1 bo3 n3 c3 L3 p3) (D : List Nat) (w : World) (h0 : Hp ⟨w, D⟩ [(bo1, 81, L1 ++ p1), (bo2, 3, L2 ++ p2), (bo3, 3, L3 ++ p3)] w) (hk0 : 0 ≤ k0 ∧ k0 ≤ 1000000 ∧ n1 ≤ 10000000 ∧ n2 ≤ 10000000 ∧ n3 ≤ 10000000) : Calls Try.prog 22 ([.agg (List.toArray (α := Value) [.int .i64 u, .int .i64 l, sv bo1 n1 c1, sv bo2 n2 c2, sv bo3 n3 c3, .int .i64 0, .int .i64 0]), .int .i64 k0]).toArray w (fun e w' => ∃ _ : Unit, True ∧ e = .returned (.int .i64 (k0 + 2 * (n1 : Nat) + 1 * (n2 : Nat) + 1 * (n3 : Nat))) ∧ Hp ⟨w, D⟩ [(bo1, 81, ints (marks k0 (2 * n1)) ++ (L1 ++ p1).drop (2 * n1)), (bo2, 3, ints (marks (k0 + 2 * (n1 : Nat)) (1 * n2)) ++ (L2 ++ p2).drop (1 * n2)), (bo3, 3, ints (marks (k0 + 2 * (n1 : Nat) + 1 * (n2 : Nat)) (1 * n3)) ++ (L3 ++ p3).drop (1 * n3))] w') := by
  refine calls_ctds h0 Try.func22 Try.ntmps22 rfl rfl ?_
  refine ct_seq ?_
  refine ct_reg ?_
  refine rl_box rfl rfl (fun N1 => ?_)
  refine rl_val gw_none (ov_assign rfl) rfl ?_
  refine rl_nil ?_
  refine at_then ?_
  refine ct_seq ?_
  refine ct_reg ?_
  refine rl_val gw_none (ov_field fo29_0 rfl) rfl ?_
  first | refine rl_val gw_none (ov_loadall 0 ag26 rfl rfl rfl) rfl ?_ | refine rl_val gw_none (ov_loadp 0 ag26 rfl rfl (vs := [_, _, _]) rfl rfl) rfl ?_ | refine rl_val gw_none (ov_loada 0 ag26 rfl rfl rfl (by assumption)) rfl ?_
  refine rl_val gw_none (ov_move rfl) rfl ?_
  refine rl_callwo [_] goes21 rfl rfl (fun w1 hp => markFrame_o _ _ _ hs1 _ (hp.atO 1 rfl) (by omega)) rfl ?_
  refine rl_val gw_none (ov_assign rfl) rfl ?_
  refine rl_nil ?_
  refine at_then ?_
  refine ct_seq ?_
  refine ct_reg ?_
  refine rl_val gw_none (ov_field fo29_1 rfl) rfl ?_
  first | refine rl_val gw_none (ov_load 0 sc27 rfl rfl rfl) rfl ?_ | refine rl_val gw_none (ov_load 0 sc27 rfl rfl (by assumption)) rfl ?_
  refine rl_val gw_none (ov_move rfl) rfl ?_
  refine rl_callwo [_, _] goes29 rfl rfl (fun w1 hp => markIntS_o _ hs2 _ (hp.atO 2 rfl) (by omega)) rfl ?_
  refine rl_val gw_none (ov_assign rfl) rfl ?_
  refine rl_nil ?_
  refine at_then ?_
  refine ct_seq ?_
  refine ct_reg ?_
  refine rl_val gw_none (ov_field fo29_2 rfl) rfl ?_
  first | refine rl_val gw_none (ov_load 0 sc27 rfl rfl rfl) rfl ?_ | refine rl_val gw_none (ov_load 0 sc27 rfl rfl (by assumption)) rfl ?_
  refine rl_val gw_none (ov_move rfl) rfl ?_
  refine rl_callwo [_, _, _] goes29 rfl rfl (fun w1 hp => markIntS_o _ hs3 _ (hp.atO 3 rfl) (by omega)) rfl ?_
  refine rl_val gw_none (ov_assign rfl) rfl ?_
  refine rl_nil ?_
  refine at_then ?_
  refine ct_seq ?_
  refine ct_reg ?_
  refine rl_val gw_none (ov_move rfl) rfl ?_
  refine rl_val gw_none (ov_assign rfl) rfl ?_
  refine rl_nil ?_
  refine at_then ?_
  refine ct_ret ?_
  refine at_ret1 Try.results22 (ro_tmp rfl) (fun w1 hp => ?_)
  exact ⟨(), trivial, rfl, (Hp.sub (Hp.pull (Hp.pull (Hp.pull hp 3 rfl) 3 rfl) 3 rfl) (List.sublist_append_left [_, _, _] _))⟩

theorem heldMind_c (u l k0 : Int) (n1 n2 n3 : Nat) (v1 v2 v3 : Value) (w : World) (h1 : SR w 2 v1 n1 (ints (marks k0 (2 * n1)))) (h2 : SR w 1 v2 n2 (ints (marks (k0 + 2 * (n1 : Nat)) (1 * n2)))) (h3 : SR w 1 v3 n3 (ints (marks (k0 + 2 * (n1 : Nat) + 1 * (n2 : Nat)) (1 * n3)))) (hk0 : 0 ≤ k0 ∧ k0 ≤ 1000000 ∧ n1 ≤ 10000000 ∧ n2 ≤ 10000000 ∧ n3 ≤ 10000000) : Calls Try.prog 23 ([.agg (List.toArray (α := Value) [.int .i64 u, .int .i64 l, v1, v2, v3, .int .i64 0, .int .i64 0]), .int .i64 k0]).toArray w (fun e w' => e = .returned (.int .i64 (k0 + 2 * (n1 : Nat) + 1 * (n2 : Nat) + 1 * (n3 : Nat))) ∧ Ext w w') := by
  obtain ⟨a1, cap1, rfl, _, _⟩ := h1.slice
  obtain ⟨a2, cap2, rfl, _, _⟩ := h2.slice
  obtain ⟨a3, cap3, rfl, _, _⟩ := h3.slice
  refine calls_ct Try.func23 Try.ntmps23 rfl rfl ?_
  refine ct_seq ?_
  refine ct_reg ?_
  refine rl_box rfl rfl (fun N1 => ?_)
  refine rl_val gw_none (ov_assign rfl) rfl ?_
  refine rl_nil ?_
  refine at_then ?_
  refine ct_seq ?_
  refine ct_reg ?_
  refine rl_val gw_none (ov_field fo29_0 rfl) rfl ?_
  first | refine rl_val gw_none (ov_loadall 0 ag26 rfl rfl rfl) rfl ?_ | refine rl_val gw_none (ov_loadp 0 ag26 rfl rfl (vs := [_, _, _]) rfl rfl) rfl ?_ | refine rl_val gw_none (ov_loada 0 ag26 rfl rfl rfl (by assumption)) rfl ?_
  refine rl_val gw_none (ov_move rfl) rfl ?_
  refine rl_callv gw_none goes37 rfl (fun w1 hp => heldFrame_c _ _ _ _ _ _ (h1.ext hp.ext0) (by omega)) rfl ?_
  refine rl_val gw_none (ov_assign rfl) rfl ?_
  refine rl_nil ?_
  refine at_then ?_
  refine ct_seq ?_
  refine ct_seq ?_
  refine ct_reg ?_
  refine rl_val gw_none (ov_move rfl) rfl ?_
  refine rl_val gw_none (ov_lss rfl rfl) rfl ?_
  refine rl_nil ?_
  refine at_then ?_
  first | refine ct_dec rfl (fun h1 => ?_) (fun h1 => ?_) | refine ct_ndec rfl (fun h1 => ?_) (fun h1 => ?_) | refine ct_eq rfl (fun h1 => ?_) (fun h1 => ?_) | refine ct_ne rfl (fun h1 => ?_) (fun h1 => ?_) | refine ct_not rfl (fun h1 => ?_) (fun h1 => ?_) | refine ct_cond rfl (fun h1 => ?_) (fun h1 => ?_)
  ·
    exfalso; first | omega | exact absurd rfl h1 | (simp at h1; done) | (simp_all; done)
  ·
    refine ct_skip ?_
    refine at_then ?_
    refine ct_seq ?_
    refine ct_reg ?_
    refine rl_val gw_none (ov_field fo29_1 rfl) rfl ?_
    first | refine rl_val gw_none (ov_load 0 sc27 rfl rfl rfl) rfl ?_ | refine rl_val gw_none (ov_load 0 sc27 rfl rfl (by assumption)) rfl ?_
    refine rl_val gw_none (ov_move rfl) rfl ?_
    refine rl_callv gw_none goes30 rfl (fun w1 hp => heldIntS_c _ _ _ _ (h2.ext hp.ext0) (by omega)) rfl ?_
    refine rl_val gw_none (ov_assign rfl) rfl ?_
    refine rl_nil ?_
    refine at_then ?_
    refine ct_seq ?_
    refine ct_seq ?_
    refine ct_reg ?_
    refine rl_val gw_none (ov_move rfl) rfl ?_
    refine rl_val gw_none (ov_lss rfl rfl) rfl ?_
    refine rl_nil ?_
    refine at_then ?_
    first | refine ct_dec rfl (fun h2 => ?_) (fun h2 => ?_) | refine ct_ndec rfl (fun h2 => ?_) (fun h2 => ?_) | refine ct_eq rfl (fun h2 => ?_) (fun h2 => ?_) | refine ct_ne rfl (fun h2 => ?_) (fun h2 => ?_) | refine ct_not rfl (fun h2 => ?_) (fun h2 => ?_) | refine ct_cond rfl (fun h2 => ?_) (fun h2 => ?_)
    ·
      exfalso; first | omega | exact absurd rfl h2 | (simp at h2; done) | (simp_all; done)
    ·
      refine ct_skip ?_
      refine at_then ?_
      refine ct_seq ?_
      refine ct_reg ?_
      refine rl_val gw_none (ov_field fo29_2 rfl) rfl ?_
      first | refine rl_val gw_none (ov_load 0 sc27 rfl rfl rfl) rfl ?_ | refine rl_val gw_none (ov_load 0 sc27 rfl rfl (by assumption)) rfl ?_
      refine rl_val gw_none (ov_move rfl) rfl ?_
      refine rl_callv gw_none goes30 rfl (fun w1 hp => heldIntS_c _ _ _ _ (h3.ext hp.ext0) (by omega)) rfl ?_
      refine rl_val gw_none (ov_assign rfl) rfl ?_
      refine rl_nil ?_
      refine at_then ?_
      refine ct_seq ?_
      refine ct_seq ?_
      refine ct_reg ?_
      refine rl_val gw_none (ov_move rfl) rfl ?_
      refine rl_val gw_none (ov_lss rfl rfl) rfl ?_
      refine rl_nil ?_
      refine at_then ?_
      first | refine ct_dec rfl (fun h3 => ?_) (fun h3 => ?_) | refine ct_ndec rfl (fun h3 => ?_) (fun h3 => ?_) | refine ct_eq rfl (fun h3 => ?_) (fun h3 => ?_) | refine ct_ne rfl (fun h3 => ?_) (fun h3 => ?_) | refine ct_not rfl (fun h3 => ?_) (fun h3 => ?_) | refine ct_cond rfl (fun h3 => ?_) (fun h3 => ?_)
      ·
        exfalso; first | omega | exact absurd rfl h3 | (simp at h3; done) | (simp_all; done)
      ·
        refine ct_skip ?_
        refine at_then ?_
        refine ct_seq ?_
        refine ct_reg ?_
        refine rl_val gw_none (ov_move rfl) rfl ?_
        refine rl_val gw_none (ov_assign rfl) rfl ?_
        refine rl_nil ?_
        refine at_then ?_
        refine ct_ret ?_
        refine at_ret1 Try.results23 (ro_tmp rfl) (fun w1 hp => ?_)
        exact ⟨rfl, hp.ext0⟩
end Go.Proofs.Ytnnhkpecgchgiaa
