import Derived.Test.YtnnhkpecgchgiaaTb
import Derived.Test.YtnnhkpecgchgiaaAa
import Derived.Test.YtnnhkpecgchgiaaKo
import Derived.KernelRfl
set_option linter.unusedVariables false
set_option linter.unusedSimpArgs false
namespace Go.Proofs.Ytnnhkpecgchgiaa
open Go Go.RowKit K
theorem value_c (u l : Int) (bw : Nat) (xs : List IntA2) (a : Option Addr) (cap : Nat) (k : Nat) (i : Int) (w : World) (hi : i = k) (hk : k < xs.length) (hg : goodB u l xs = true) (cc : w.cell? ⟨bw, 2, none⟩ = some (.slice a xs.length cap)) (hsr : SR w 2 (.slice a xs.length cap) xs.length (flat encIntA2 xs)) : Calls Try.prog 151 ([.pointer (some ⟨bw, 0, none⟩), .int .i64 i]).toArray w (fun e w' => e = .returned (.int .i64 (rvAt xs k)) ∧ Ext w w') := by
  subst hi
  obtain ⟨b, o, rfl, hel⟩ := hsr.elem encIntA2_len (by omega) hk
  have hx := getLt hk
  have hgx := good_at hg hx
  generalize xs[k] = r at *
  have hcx := hel k r hx
  obtain ⟨c0, c1, _⟩ := hel k r hx
  refine calls_ct Try.func151 Try.ntmps151 rfl rfl ?_
  refine ct_seq ?_
  refine ct_reg ?_
  refine rl_val gw_none (ov_assign rfl) rfl ?_
  refine rl_nil ?_
  refine at_then ?_
  refine ct_seq ?_
  refine ct_dr 21 (by kernel_rfl) (by kernel_rfl) ?_
  refine ql_val gw_none (ov_move rfl) rfl ?_
  refine ql_val gw_none (ov_nilc rfl) rfl ?_
  refine ql_val gw_none (ov_field fo91_0 rfl) rfl ?_
  refine ql_val gw_none (ov_field fo26_2 rfl) rfl ?_
  first | refine ql_val gw_none (ov_load 0 sc22 rfl rfl rfl) rfl ?_ | refine ql_val gw_none (ov_load 1 sc22 rfl rfl rfl) rfl ?_ | refine ql_val gw_none (ov_load 2 sc22 rfl rfl rfl) rfl ?_ | refine ql_val gw_none (ov_load 3 sc22 rfl rfl rfl) rfl ?_ | refine ql_val gw_none (ov_loadw sc22 rfl (by assumption)) rfl ?_ | refine ql_val gw_none (ov_load 0 sc22 rfl rfl (by assumption)) rfl ?_ | refine ql_val gw_none (ov_load 1 sc22 rfl rfl (by assumption)) rfl ?_ | refine ql_val gw_none (ov_load 2 sc22 rfl rfl (by assumption)) rfl ?_ | refine ql_val gw_none (ov_load 3 sc22 rfl rfl (by assumption)) rfl ?_
  refine ql_val gw_none (ov_move rfl) rfl ?_
  first | refine ql_val gw_none (ov_ix Try.underlying22 sz81 rfl rfl _ rfl (by omega)) rfl ?_ | refine ql_val gw_none (ov_ix Try.underlying22 sz81 rfl rfl (k) (by omega) (by omega)) rfl ?_ | refine ql_val gw_none (ov_ix Try.underlying22 sz81 rfl rfl (0) (by omega) (by omega)) rfl ?_ | refine ql_val gw_none (ov_ix Try.underlying22 sz81 rfl rfl (1) (by omega) (by omega)) rfl ?_
  first | refine ql_val gw_none (ov_ixa Try.underlying81 sz3 rfl rfl _ rfl (by omega)) rfl ?_ | refine ql_val gw_none (ov_ixa Try.underlying81 sz3 rfl rfl (k) (by omega) (by omega)) rfl ?_ | refine ql_val gw_none (ov_ixa Try.underlying81 sz3 rfl rfl (0) (by omega) (by omega)) rfl ?_ | refine ql_val gw_none (ov_ixa Try.underlying81 sz3 rfl rfl (1) (by omega) (by omega)) rfl ?_
  first | refine ql_val gw_none (ov_load 0 sc3 rfl rfl rfl) rfl ?_ | refine ql_val gw_none (ov_load 1 sc3 rfl rfl rfl) rfl ?_ | refine ql_val gw_none (ov_load 2 sc3 rfl rfl rfl) rfl ?_ | refine ql_val gw_none (ov_load 3 sc3 rfl rfl rfl) rfl ?_ | refine ql_val gw_none (ov_loadw sc3 rfl (by assumption)) rfl ?_ | refine ql_val gw_none (ov_load 0 sc3 rfl rfl (by assumption)) rfl ?_ | refine ql_val gw_none (ov_load 1 sc3 rfl rfl (by assumption)) rfl ?_ | refine ql_val gw_none (ov_load 2 sc3 rfl rfl (by assumption)) rfl ?_ | refine ql_val gw_none (ov_load 3 sc3 rfl rfl (by assumption)) rfl ?_
  refine ql_val gw_none (ov_mul rfl rfl (by omega)) rfl ?_
  refine ql_val gw_none (ov_move rfl) rfl ?_
  refine ql_val gw_none (ov_nilc rfl) rfl ?_
  refine ql_val gw_none (ov_field fo91_0 rfl) rfl ?_
  refine ql_val gw_none (ov_field fo26_2 rfl) rfl ?_
  first | refine ql_val gw_none (ov_load 0 sc22 rfl rfl rfl) rfl ?_ | refine ql_val gw_none (ov_load 1 sc22 rfl rfl rfl) rfl ?_ | refine ql_val gw_none (ov_load 2 sc22 rfl rfl rfl) rfl ?_ | refine ql_val gw_none (ov_load 3 sc22 rfl rfl rfl) rfl ?_ | refine ql_val gw_none (ov_loadw sc22 rfl (by assumption)) rfl ?_ | refine ql_val gw_none (ov_load 0 sc22 rfl rfl (by assumption)) rfl ?_ | refine ql_val gw_none (ov_load 1 sc22 rfl rfl (by assumption)) rfl ?_ | refine ql_val gw_none (ov_load 2 sc22 rfl rfl (by assumption)) rfl ?_ | refine ql_val gw_none (ov_load 3 sc22 rfl rfl (by assumption)) rfl ?_
  refine ql_val gw_none (ov_move rfl) rfl ?_
  first | refine ql_val gw_none (ov_ix Try.underlying22 sz81 rfl rfl _ rfl (by omega)) rfl ?_ | refine ql_val gw_none (ov_ix Try.underlying22 sz81 rfl rfl (k) (by omega) (by omega)) rfl ?_ | refine ql_val gw_none (ov_ix Try.underlying22 sz81 rfl rfl (0) (by omega) (by omega)) rfl ?_ | refine ql_val gw_none (ov_ix Try.underlying22 sz81 rfl rfl (1) (by omega) (by omega)) rfl ?_
  first | refine ql_val gw_none (ov_ixa Try.underlying81 sz3 rfl rfl _ rfl (by omega)) rfl ?_ | refine ql_val gw_none (ov_ixa Try.underlying81 sz3 rfl rfl (k) (by omega) (by omega)) rfl ?_ | refine ql_val gw_none (ov_ixa Try.underlying81 sz3 rfl rfl (0) (by omega) (by omega)) rfl ?_ | refine ql_val gw_none (ov_ixa Try.underlying81 sz3 rfl rfl (1) (by omega) (by omega)) rfl ?_
  first | refine ql_val gw_none (ov_load 0 sc3 rfl rfl rfl) rfl ?_ | refine ql_val gw_none (ov_load 1 sc3 rfl rfl rfl) rfl ?_ | refine ql_val gw_none (ov_load 2 sc3 rfl rfl rfl) rfl ?_ | refine ql_val gw_none (ov_load 3 sc3 rfl rfl rfl) rfl ?_ | refine ql_val gw_none (ov_loadw sc3 rfl (by assumption)) rfl ?_ | refine ql_val gw_none (ov_load 0 sc3 rfl rfl (by assumption)) rfl ?_ | refine ql_val gw_none (ov_load 1 sc3 rfl rfl (by assumption)) rfl ?_ | refine ql_val gw_none (ov_load 2 sc3 rfl rfl (by assumption)) rfl ?_ | refine ql_val gw_none (ov_load 3 sc3 rfl rfl (by assumption)) rfl ?_
  refine ql_val gw_none (ov_add rfl rfl (by omega)) rfl ?_
  refine ql_val gw_none (ov_assign rfl) rfl ?_
  refine ql_nil ?_
  refine rl_nil ?_
  refine at_then ?_
  refine ct_ret ?_
  refine at_ret1 Try.results151 (ro_tmp rfl) (fun w1 hp => ?_)
  refine ⟨?_, hp.ext0⟩
  rw [rvAt_eq hx]

theorem rodMoves_c (i : Int) (r q : IntA2) (w : World) (hr : (0 ≤ r.a ∧ r.a ≤ 100) ∧ (0 ≤ r.b ∧ r.b ≤ 100)) (hq : (0 ≤ q.a ∧ q.a ≤ 100) ∧ (0 ≤ q.b ∧ q.b ≤ 100)) : Calls Try.prog 153 ([.int .i64 i, .agg (encIntA2 r).toArray, .agg (encIntA2 q).toArray]).toArray w (fun e w' => ∃ (i : List BeadMove × Nat × List Value) (bo : Option Nat), (Sl 3 bo i.1.length i.2.1 (flat encBeadMove i.1) i.2.2 ∧ i.1.length ≤ 2) ∧ e = .returned (sv bo i.1.length i.2.1) ∧ NewO w w' bo 128 (flat encBeadMove i.1 ++ i.2.2)) := by
  refine calls_ct Try.func153 Try.ntmps153 rfl rfl ?_
  refine ct_seq ?_
  refine ct_reg ?_
  refine rl_box rfl rfl (fun N1 => ?_)
  refine rl_box rfl rfl (fun N2 => ?_)
  refine rl_val gw_none (ov_assign rfl) rfl ?_
  refine rl_nil ?_
  refine at_then ?_
  refine ct_seq ?_
  refine ct_reg ?_
  refine rl_val gw_none (ov_assign rfl) rfl ?_
  refine rl_nil ?_
  refine at_then ?_
  refine ct_seq ?_
  refine ct_seq ?_
  refine ct_reg ?_
  refine rl_val gw_none (ov_move rfl) rfl ?_
  refine rl_nil ?_
  refine at_then ?_
  refine ct_block ?_
  refine ct_rounds 3 ?_
  refine ct_round ?_
  refine ct_seq ?_
  refine ct_reg ?_
  refine rl_val gw_none (ov_lss rfl rfl) rfl ?_
  refine rl_nil ?_
  refine at_then ?_
  refine ct_seq ?_
  refine ct_true rfl (by decide) ?_
  refine ct_skip ?_
  refine at_then ?_
  refine ct_seq ?_
  refine ct_block ?_
  refine ct_seq ?_
  refine ct_reg ?_
  refine rl_val gw_none (ov_move rfl) rfl ?_
  refine rl_val gw_none (ov_assign rfl) rfl ?_
  refine rl_nil ?_
  refine at_then ?_
  refine ct_seq ?_
  refine ct_dr 8 (by kernel_rfl) (by kernel_rfl) ?_
  refine ql_val gw_none (ov_move rfl) rfl ?_
  first | refine ql_val gw_none (ov_ixa Try.underlying81 sz3 rfl rfl _ rfl (by omega)) rfl ?_ | refine ql_val gw_none (ov_ixa Try.underlying81 sz3 rfl rfl (0) (by omega) (by omega)) rfl ?_ | refine ql_val gw_none (ov_ixa Try.underlying81 sz3 rfl rfl (1) (by omega) (by omega)) rfl ?_
  first | refine ql_val gw_none (ov_load 0 sc3 rfl rfl rfl) rfl ?_ | refine ql_val gw_none (ov_load 0 sc3 rfl rfl (by assumption)) rfl ?_
  refine ql_val gw_none (ov_move rfl) rfl ?_
  first | refine ql_val gw_none (ov_ixa Try.underlying81 sz3 rfl rfl _ rfl (by omega)) rfl ?_ | refine ql_val gw_none (ov_ixa Try.underlying81 sz3 rfl rfl (0) (by omega) (by omega)) rfl ?_ | refine ql_val gw_none (ov_ixa Try.underlying81 sz3 rfl rfl (1) (by omega) (by omega)) rfl ?_
  first | refine ql_val gw_none (ov_load 1 sc3 rfl rfl rfl) rfl ?_ | refine ql_val gw_none (ov_load 1 sc3 rfl rfl (by assumption)) rfl ?_
  refine ql_val gw_none (ov_sub rfl rfl (by omega)) rfl ?_
  refine ql_val gw_none (ov_assign rfl) rfl ?_
  refine ql_nil ?_
  refine rl_nil ?_
  refine at_then ?_
  refine ct_seq ?_
  refine ct_reg ?_
  refine rl_val gw_none (ov_move rfl) rfl ?_
  refine rl_val gw_none (ov_neq rfl rfl) rfl ?_
  refine rl_nil ?_
  refine at_then ?_
  first | refine ct_dec rfl (fun h1 => ?_) (fun h1 => ?_) | refine ct_ndec rfl (fun h1 => ?_) (fun h1 => ?_) | refine ct_eq rfl (fun h1 => ?_) (fun h1 => ?_) | refine ct_ne rfl (fun h1 => ?_) (fun h1 => ?_) | refine ct_not rfl (fun h1 => ?_) (fun h1 => ?_) | refine ct_cond rfl (fun h1 => ?_) (fun h1 => ?_)
  ·
    refine ct_reg ?_
    refine rl_val gw_none (ov_move rfl) rfl ?_
    refine rl_val gw_none (ov_move rfl) rfl ?_
    refine rl_val gw_none (ov_move rfl) rfl ?_
    refine rl_val gw_none (ov_move rfl) rfl ?_
    refine rl_val gw_none (ov_build rfl (bu128_0_1_2 _ _ _)) rfl ?_
    refine rl_bslice Try.underlying86 ze128 sz128 rfl rfl rfl rfl rfl rfl (fun N3 => ?_)
    refine rl_nilent 128 ?_
    refine rl_appT (flat encBeadMove) ((flat_append _)) [] (bo := none) (acc := []) Try.underlying86 ze128 sz128 rfl rfl by128 rfl rfl rfl (Sl.nil0 _) ([(⟨i, 0, q.a - r.a⟩ : BeadMove)]) rfl (fun w1 hp => hp.sr1 1 rfl rfl (by decide)) (flat_one encBeadMove_one _) (by unfold maxLen; first | omega | (simp; done) | (simp; omega)) (by first | omega | (simp; done) | (simp; omega)) rfl (fun boq1 capq1 padq1 hsq1 => ?_)
    refine rl_val gw_none (ov_assign rfl) rfl ?_
    refine rl_nil ?_
    refine at_block ?_
    refine at_then ?_
    refine ct_reg ?_
    refine rl_val gw_none (ov_add rfl rfl (by omega)) rfl ?_
    refine rl_val gw_none (ov_move rfl) rfl ?_
    refine rl_nil ?_
    refine at_round ?_
    refine ct_round ?_
    refine ct_seq ?_
    refine ct_reg ?_
    refine rl_val gw_none (ov_lss rfl rfl) rfl ?_
    refine rl_nil ?_
    refine at_then ?_
    refine ct_seq ?_
    refine ct_true rfl (by decide) ?_
    refine ct_skip ?_
    refine at_then ?_
    refine ct_seq ?_
    refine ct_block ?_
    refine ct_seq ?_
    refine ct_reg ?_
    refine rl_val gw_none (ov_move rfl) rfl ?_
    refine rl_val gw_none (ov_assign rfl) rfl ?_
    refine rl_nil ?_
    refine at_then ?_
    refine ct_seq ?_
    refine ct_dr 8 (by kernel_rfl) (by kernel_rfl) ?_
    refine ql_val gw_none (ov_move rfl) rfl ?_
    first | refine ql_val gw_none (ov_ixa Try.underlying81 sz3 rfl rfl _ rfl (by omega)) rfl ?_ | refine ql_val gw_none (ov_ixa Try.underlying81 sz3 rfl rfl (0) (by omega) (by omega)) rfl ?_ | refine ql_val gw_none (ov_ixa Try.underlying81 sz3 rfl rfl (1) (by omega) (by omega)) rfl ?_
    first | refine ql_val gw_none (ov_load 2 sc3 rfl rfl rfl) rfl ?_ | refine ql_val gw_none (ov_load 2 sc3 rfl rfl (by assumption)) rfl ?_
    refine ql_val gw_none (ov_move rfl) rfl ?_
    first | refine ql_val gw_none (ov_ixa Try.underlying81 sz3 rfl rfl _ rfl (by omega)) rfl ?_ | refine ql_val gw_none (ov_ixa Try.underlying81 sz3 rfl rfl (0) (by omega) (by omega)) rfl ?_ | refine ql_val gw_none (ov_ixa Try.underlying81 sz3 rfl rfl (1) (by omega) (by omega)) rfl ?_
    first | refine ql_val gw_none (ov_load 3 sc3 rfl rfl rfl) rfl ?_ | refine ql_val gw_none (ov_load 3 sc3 rfl rfl (by assumption)) rfl ?_
    refine ql_val gw_none (ov_sub rfl rfl (by omega)) rfl ?_
    refine ql_val gw_none (ov_assign rfl) rfl ?_
    refine ql_nil ?_
    refine rl_nil ?_
    refine at_then ?_
    refine ct_seq ?_
    refine ct_reg ?_
    refine rl_val gw_none (ov_move rfl) rfl ?_
    refine rl_val gw_none (ov_neq rfl rfl) rfl ?_
    refine rl_nil ?_
    refine at_then ?_
    first | refine ct_dec rfl (fun h2 => ?_) (fun h2 => ?_) | refine ct_ndec rfl (fun h2 => ?_) (fun h2 => ?_) | refine ct_eq rfl (fun h2 => ?_) (fun h2 => ?_) | refine ct_ne rfl (fun h2 => ?_) (fun h2 => ?_) | refine ct_not rfl (fun h2 => ?_) (fun h2 => ?_) | refine ct_cond rfl (fun h2 => ?_) (fun h2 => ?_)
    ·
      refine ct_reg ?_
      refine rl_val gw_none (ov_move rfl) rfl ?_
      refine rl_val gw_none (ov_move rfl) rfl ?_
      refine rl_val gw_none (ov_move rfl) rfl ?_
      refine rl_val gw_none (ov_move rfl) rfl ?_
      refine rl_val gw_none (ov_build rfl (bu128_0_1_2 _ _ _)) rfl ?_
      refine rl_bslice Try.underlying86 ze128 sz128 rfl rfl rfl rfl rfl rfl (fun N4 => ?_)
      refine rl_appT (flat encBeadMove) ((flat_append _)) [_] Try.underlying86 ze128 sz128 rfl rfl by128 rfl rfl rfl hsq1 ([(⟨i, 1, q.b - r.b⟩ : BeadMove)]) rfl (fun w1 hp => hp.sr1 0 rfl rfl (by decide)) (flat_one encBeadMove_one _) (by unfold maxLen; first | omega | (simp; done) | (simp; omega)) (by first | omega | (simp; done) | (simp; omega)) rfl (fun boq2 capq2 padq2 hsq2 => ?_)
      refine rl_val gw_none (ov_assign rfl) rfl ?_
      refine rl_nil ?_
      refine at_block ?_
      refine at_then ?_
      refine ct_reg ?_
      refine rl_val gw_none (ov_add rfl rfl (by omega)) rfl ?_
      refine rl_val gw_none (ov_move rfl) rfl ?_
      refine rl_nil ?_
      refine at_round ?_
      refine ct_round ?_
      refine ct_seq ?_
      refine ct_reg ?_
      refine rl_val gw_none (ov_lss rfl rfl) rfl ?_
      refine rl_nil ?_
      refine at_then ?_
      refine ct_seq ?_
      refine ct_false rfl (by decide) ?_
      refine ct_exit ?_
      refine at_then_exit ?_
      refine at_then_exit ?_
      refine at_block_hit ?_
      refine at_then ?_
      refine ct_seq ?_
      refine ct_reg ?_
      refine rl_val gw_none (ov_move rfl) rfl ?_
      refine rl_val gw_none (ov_assign rfl) rfl ?_
      refine rl_nil ?_
      refine at_then ?_
      refine ct_ret ?_
      refine at_ret1 Try.results153 (ro_tmp rfl) (fun w1 hp => ?_)
      exact ⟨([]  ++ [(⟨i, 0, q.a - r.a⟩ : BeadMove)] ++ [(⟨i, 1, q.b - r.b⟩ : BeadMove)], capq2, padq2), boq2, ⟨hsq2, by simp⟩, rfl, hp.toNewO (i := 1) rfl⟩
    ·
      refine ct_skip ?_
      refine at_block ?_
      refine at_then ?_
      refine ct_reg ?_
      refine rl_val gw_none (ov_add rfl rfl (by omega)) rfl ?_
      refine rl_val gw_none (ov_move rfl) rfl ?_
      refine rl_nil ?_
      refine at_round ?_
      refine ct_round ?_
      refine ct_seq ?_
      refine ct_reg ?_
      refine rl_val gw_none (ov_lss rfl rfl) rfl ?_
      refine rl_nil ?_
      refine at_then ?_
      refine ct_seq ?_
      refine ct_false rfl (by decide) ?_
      refine ct_exit ?_
      refine at_then_exit ?_
      refine at_then_exit ?_
      refine at_block_hit ?_
      refine at_then ?_
      refine ct_seq ?_
      refine ct_reg ?_
      refine rl_val gw_none (ov_move rfl) rfl ?_
      refine rl_val gw_none (ov_assign rfl) rfl ?_
      refine rl_nil ?_
      refine at_then ?_
      refine ct_ret ?_
      refine at_ret1 Try.results153 (ro_tmp rfl) (fun w1 hp => ?_)
      exact ⟨([]  ++ [(⟨i, 0, q.a - r.a⟩ : BeadMove)], capq1, padq1), boq1, ⟨hsq1, by simp⟩, rfl, hp.toNewO (i := 0) rfl⟩
  ·
    refine ct_skip ?_
    refine at_block ?_
    refine at_then ?_
    refine ct_reg ?_
    refine rl_val gw_none (ov_add rfl rfl (by omega)) rfl ?_
    refine rl_val gw_none (ov_move rfl) rfl ?_
    refine rl_nil ?_
    refine at_round ?_
    refine ct_round ?_
    refine ct_seq ?_
    refine ct_reg ?_
    refine rl_val gw_none (ov_lss rfl rfl) rfl ?_
    refine rl_nil ?_
    refine at_then ?_
    refine ct_seq ?_
    refine ct_true rfl (by decide) ?_
    refine ct_skip ?_
    refine at_then ?_
    refine ct_seq ?_
    refine ct_block ?_
    refine ct_seq ?_
    refine ct_reg ?_
    refine rl_val gw_none (ov_move rfl) rfl ?_
    refine rl_val gw_none (ov_assign rfl) rfl ?_
    refine rl_nil ?_
    refine at_then ?_
    refine ct_seq ?_
    refine ct_dr 8 (by kernel_rfl) (by kernel_rfl) ?_
    refine ql_val gw_none (ov_move rfl) rfl ?_
    first | refine ql_val gw_none (ov_ixa Try.underlying81 sz3 rfl rfl _ rfl (by omega)) rfl ?_ | refine ql_val gw_none (ov_ixa Try.underlying81 sz3 rfl rfl (0) (by omega) (by omega)) rfl ?_ | refine ql_val gw_none (ov_ixa Try.underlying81 sz3 rfl rfl (1) (by omega) (by omega)) rfl ?_
    first | refine ql_val gw_none (ov_load 0 sc3 rfl rfl rfl) rfl ?_ | refine ql_val gw_none (ov_load 0 sc3 rfl rfl (by assumption)) rfl ?_
    refine ql_val gw_none (ov_move rfl) rfl ?_
    first | refine ql_val gw_none (ov_ixa Try.underlying81 sz3 rfl rfl _ rfl (by omega)) rfl ?_ | refine ql_val gw_none (ov_ixa Try.underlying81 sz3 rfl rfl (0) (by omega) (by omega)) rfl ?_ | refine ql_val gw_none (ov_ixa Try.underlying81 sz3 rfl rfl (1) (by omega) (by omega)) rfl ?_
    first | refine ql_val gw_none (ov_load 1 sc3 rfl rfl rfl) rfl ?_ | refine ql_val gw_none (ov_load 1 sc3 rfl rfl (by assumption)) rfl ?_
    refine ql_val gw_none (ov_sub rfl rfl (by omega)) rfl ?_
    refine ql_val gw_none (ov_assign rfl) rfl ?_
    refine ql_nil ?_
    refine rl_nil ?_
    refine at_then ?_
    refine ct_seq ?_
    refine ct_reg ?_
    refine rl_val gw_none (ov_move rfl) rfl ?_
    refine rl_val gw_none (ov_neq rfl rfl) rfl ?_
    refine rl_nil ?_
    refine at_then ?_
    first | refine ct_dec rfl (fun h3 => ?_) (fun h3 => ?_) | refine ct_ndec rfl (fun h3 => ?_) (fun h3 => ?_) | refine ct_eq rfl (fun h3 => ?_) (fun h3 => ?_) | refine ct_ne rfl (fun h3 => ?_) (fun h3 => ?_) | refine ct_not rfl (fun h3 => ?_) (fun h3 => ?_) | refine ct_cond rfl (fun h3 => ?_) (fun h3 => ?_)
    ·
      refine ct_reg ?_
      refine rl_val gw_none (ov_move rfl) rfl ?_
      refine rl_val gw_none (ov_move rfl) rfl ?_
      refine rl_val gw_none (ov_move rfl) rfl ?_
      refine rl_val gw_none (ov_move rfl) rfl ?_
      refine rl_val gw_none (ov_build rfl (bu128_0_1_2 _ _ _)) rfl ?_
      refine rl_bslice Try.underlying86 ze128 sz128 rfl rfl rfl rfl rfl rfl (fun N5 => ?_)
      refine rl_nilent 128 ?_
      refine rl_appT (flat encBeadMove) ((flat_append _)) [] (bo := none) (acc := []) Try.underlying86 ze128 sz128 rfl rfl by128 rfl rfl rfl (Sl.nil0 _) ([(⟨i, 1, q.b - r.b⟩ : BeadMove)]) rfl (fun w1 hp => hp.sr1 1 rfl rfl (by decide)) (flat_one encBeadMove_one _) (by unfold maxLen; first | omega | (simp; done) | (simp; omega)) (by first | omega | (simp; done) | (simp; omega)) rfl (fun boq3 capq3 padq3 hsq3 => ?_)
      refine rl_val gw_none (ov_assign rfl) rfl ?_
      refine rl_nil ?_
      refine at_block ?_
      refine at_then ?_
      refine ct_reg ?_
      refine rl_val gw_none (ov_add rfl rfl (by omega)) rfl ?_
      refine rl_val gw_none (ov_move rfl) rfl ?_
      refine rl_nil ?_
      refine at_round ?_
      refine ct_round ?_
      refine ct_seq ?_
      refine ct_reg ?_
      refine rl_val gw_none (ov_lss rfl rfl) rfl ?_
      refine rl_nil ?_
      refine at_then ?_
      refine ct_seq ?_
      refine ct_false rfl (by decide) ?_
      refine ct_exit ?_
      refine at_then_exit ?_
      refine at_then_exit ?_
      refine at_block_hit ?_
      refine at_then ?_
      refine ct_seq ?_
      refine ct_reg ?_
      refine rl_val gw_none (ov_move rfl) rfl ?_
      refine rl_val gw_none (ov_assign rfl) rfl ?_
      refine rl_nil ?_
      refine at_then ?_
      refine ct_ret ?_
      refine at_ret1 Try.results153 (ro_tmp rfl) (fun w1 hp => ?_)
      exact ⟨([]  ++ [(⟨i, 1, q.b - r.b⟩ : BeadMove)], capq3, padq3), boq3, ⟨hsq3, by simp⟩, rfl, hp.toNewO (i := 0) rfl⟩
    ·
      refine ct_skip ?_
      refine at_block ?_
      refine at_then ?_
      refine ct_reg ?_
      refine rl_val gw_none (ov_add rfl rfl (by omega)) rfl ?_
      refine rl_val gw_none (ov_move rfl) rfl ?_
      refine rl_nil ?_
      refine at_round ?_
      refine ct_round ?_
      refine ct_seq ?_
      refine ct_reg ?_
      refine rl_val gw_none (ov_lss rfl rfl) rfl ?_
      refine rl_nil ?_
      refine at_then ?_
      refine ct_seq ?_
      refine ct_false rfl (by decide) ?_
      refine ct_exit ?_
      refine at_then_exit ?_
      refine at_then_exit ?_
      refine at_block_hit ?_
      refine at_then ?_
      refine ct_seq ?_
      refine ct_reg ?_
      refine rl_val gw_none (ov_move rfl) rfl ?_
      refine rl_val gw_none (ov_assign rfl) rfl ?_
      refine rl_nil ?_
      refine at_then ?_
      refine ct_ret ?_
      refine at_ret1 Try.results153 (ro_tmp rfl) (fun w1 hp => ?_)
      exact ⟨([], 0, []), none, ⟨Sl.nil0 _, by simp⟩, rfl, ⟨rfl, hp.ext0⟩⟩

theorem turn_c (u l as_ : Int) (bw br : Nat) (xs : List IntA2) (rc : Nat) (rp : List Value) (bm : Option Nat) (mc : Nat) (mp : List Value) (ms : List BeadMove) (k : Nat) (i d : Int) (D : List Nat) (w : World) (h0 : Hp ⟨w, D⟩ [(some bw, 91, [.int .i64 u, .int .i64 l, sv (some br) (xs).length rc, sv bm (ms).length mc, .int .i64 (as_)]), (some br, 81, flat encIntA2 (xs) ++ rp), (bm, 128, flat encBeadMove (ms) ++ mp)] w) (hg : goodB u l xs = true) (hsr : Sl 2 (some br) xs.length rc (flat encIntA2 xs) rp) (hsm : Sl 3 bm ms.length mc (flat encBeadMove ms) mp) (hml : ms.length ≤ 20000) (hi : i = k) (hk : k < xs.length) (hd : 0 ≤ d ∧ d ≤ 9) : Calls Try.prog 152 ([.pointer (some ⟨bw, 0, none⟩), .int .i64 i, .int .i64 d]).toArray w (fun e w' => ∃ j : Option Nat × Nat × List Value × List BeadMove, (Sl 3 j.1 j.2.2.2.length j.2.1 (flat encBeadMove j.2.2.2) j.2.2.1 ∧ j.2.2.2.length ≤ ms.length + 2) ∧ e = .returned (.tuple #[]) ∧ Hp ⟨w, D⟩ [(some bw, 91, [.int .i64 u, .int .i64 l, sv (some br) (xs.set k (rodFor d)).length rc, sv j.1 (j.2.2.2).length j.2.1, .int .i64 (as_)]), (some br, 81, flat encIntA2 (xs.set k (rodFor d)) ++ rp), (j.1, 128, flat encBeadMove (j.2.2.2) ++ j.2.2.1)] w') := by
  subst hi
  have hx := getLt hk
  have hgx := good_at hg hx
  generalize hxr : xs[k] = r at *
  refine calls_ctds h0 Try.func152 Try.ntmps152 rfl rfl ?_
  refine ct_seq ?_
  refine ct_reg ?_
  refine rl_val gw_none (ov_move rfl) rfl ?_
  refine rl_callv gw_none goes122 rfl (fun w1 hp => rodOf_c _ _ (by omega)) rfl ?_
  refine rl_alloc ze81 rfl (fun N1 => ?_)
  refine rl_store [] sz81 rfl rfl rfl rfl rfl (Nat.le_of_ble_eq_true rfl) ?_
  refine rl_nil ?_
  refine at_then ?_
  refine ct_seq ?_
  refine ct_fl 17 [0, 1, 2, 3, 4, 5, 6, 7, 8, 9, 10, 11, 12, 13, 14, 15, 16, 17, 18, 19] ⟨0, [15, 16], [16], [], [4, 10, 13, 14], []⟩ (fun q => ⟨0, [], fun _ => undef⟩) (by kernel_rfl) (by kernel_rfl) ?_
  refine qf_mark True.intro ?_
  refine qg_val rfl gw_none (fun _ => (ov_move rfl)) rfl ?_
  refine qf_step rfl ?_
  refine qg_val rfl gw_none (fun _ => (ov_move rfl)) rfl ?_
  refine qf_step rfl ?_
  refine qg_val rfl gw_none (fun _ => (ov_nilc rfl)) rfl ?_
  refine qf_step rfl ?_
  refine qg_val rfl gw_none (fun _ => (ov_field fo91_1 rfl)) rfl ?_
  refine qf_step rfl ?_
  first | refine qg_valm rfl rfl gw_none (ov_load 1 sc86 rfl rfl rfl) rfl ?_ | refine qg_valm rfl rfl gw_none (ov_load 1 sc86 rfl rfl (by assumption)) rfl ?_
  refine qf_step rfl ?_
  refine qg_val rfl gw_none (fun _ => (ov_move rfl)) rfl ?_
  refine qf_step rfl ?_
  refine qg_val rfl gw_none (fun _ => (ov_move rfl)) rfl ?_
  refine qf_step rfl ?_
  refine qg_val rfl gw_none (fun _ => (ov_nilc rfl)) rfl ?_
  refine qf_step rfl ?_
  refine qg_val rfl gw_none (fun _ => (ov_field fo91_0 rfl)) rfl ?_
  refine qf_step rfl ?_
  refine qg_val rfl gw_none (fun _ => (ov_field fo26_2 rfl)) rfl ?_
  refine qf_step rfl ?_
  first | refine qg_valm rfl rfl gw_none (ov_load 1 sc22 rfl rfl rfl) rfl ?_ | refine qg_valm rfl rfl gw_none (ov_load 1 sc22 rfl rfl (by assumption)) rfl ?_
  refine qf_step rfl ?_
  refine qg_val rfl gw_none (fun _ => (ov_move rfl)) rfl ?_
  refine qf_step rfl ?_
  first | refine qg_val rfl gw_none (fun _ => (ov_ix Try.underlying22 sz81 rfl rfl _ rfl (by omega))) rfl ?_ | refine qg_val rfl gw_none (fun _ => (ov_ix Try.underlying22 sz81 rfl rfl (k) (by omega) (by omega))) rfl ?_
  refine qf_step rfl ?_
  refine qg_valm rfl rfl gw_none (ov_loada 2 ag81 rfl rfl (vs := encIntA2 r) rfl (flatCells encIntA2_len hx _)) rfl ?_
  refine qf_step rfl ?_
  first | refine qg_valm rfl rfl gw_none (ov_loadall 0 ag81 rfl rfl rfl) rfl ?_ | refine qg_valm rfl rfl gw_none (ov_loadp 0 ag81 rfl rfl (vs := [_, _]) rfl rfl) rfl ?_ | refine qg_valm rfl rfl gw_none (ov_loada 0 ag81 rfl rfl rfl (by assumption)) rfl ?_
  refine qf_step rfl ?_
  refine qg_callsl (ι := List BeadMove × Nat × List Value) (fun i bo => sv bo i.1.length i.2.1) (fun i => flat encBeadMove i.1 ++ i.2.2) (fun i bo => Sl 3 bo i.1.length i.2.1 (flat encBeadMove i.1) i.2.2 ∧ i.1.length ≤ 2) rfl rfl rfl goes153 rfl (fun w1 hp => rodMoves_c _ r (rodFor d) _ (by omega) (by unfold rodFor; dsimp only; omega)) rfl (fun irm borm hsrm => ?_)
  refine qf_step rfl ?_
  refine qg_appT (flat encBeadMove) ((flat_append _)) [_, _, _, _] (acc := ms) rfl rfl rfl Try.underlying86 ze128 sz128 rfl rfl by128 rfl rfl rfl hsm (irm.1) (fun _ _ _ => True.intro) rfl (fun w1 hp => hp.slsr 0 rfl hsrm.1) (flat_one encBeadMove_one _) (by unfold maxLen; omega) (by omega) rfl (fun boq1 capq1 padq1 hsq1 => ?_)
  refine qf_nil ?_
  refine rl_val gw_none (ov_nilc rfl) rfl ?_
  refine rl_val gw_none (ov_field fo91_1 rfl) rfl ?_
  refine rl_store [_, _] sz86 rfl rfl rfl rfl rfl (Nat.le_of_ble_eq_true rfl) ?_
  refine rl_nil ?_
  refine at_then ?_
  refine ct_dr 8 (by kernel_rfl) (by kernel_rfl) ?_
  refine ql_val gw_none (ov_move rfl) rfl ?_
  refine ql_val gw_none (ov_nilc rfl) rfl ?_
  refine ql_val gw_none (ov_field fo91_0 rfl) rfl ?_
  refine ql_val gw_none (ov_field fo26_2 rfl) rfl ?_
  first | refine ql_val gw_none (ov_load 2 sc22 rfl rfl rfl) rfl ?_ | refine ql_val gw_none (ov_load 2 sc22 rfl rfl (by assumption)) rfl ?_
  refine ql_val gw_none (ov_move rfl) rfl ?_
  first | refine ql_val gw_none (ov_loadall 1 ag81 rfl rfl rfl) rfl ?_ | refine ql_val gw_none (ov_loadp 1 ag81 rfl rfl (vs := [_, _]) rfl rfl) rfl ?_ | refine ql_val gw_none (ov_loada 1 ag81 rfl rfl rfl (by assumption)) rfl ?_
  first | refine ql_val gw_none (ov_ix Try.underlying22 sz81 rfl rfl _ rfl (by omega)) rfl ?_ | refine ql_val gw_none (ov_ix Try.underlying22 sz81 rfl rfl (k) (by omega) (by omega)) rfl ?_
  refine ql_nil ?_
  refine rl_store [_, _, _] sz81 rfl rfl rfl rfl rfl (by rw [List.length_append, flat_length encIntA2_len]; omega) ?_
  refine rl_mem (fun _ hq => hq.cong (congrArg (fun x => _ :: _ :: _ :: (_, _, x) :: _) (flatSetP encIntA2_len (rodFor d) _ hk))) ?_
  refine rl_nil ?_
  refine at_end ?_
  refine at_ret0 Try.results152 (fun w1 hp => ?_)
  exact ⟨(boq1, capq1, padq1, ms ++ irm.1), ⟨hsq1, by rw [List.length_append]; omega⟩, rfl, ((Hp.sub (Hp.pull (Hp.pull (Hp.pull hp 4 rfl) 4 rfl) 4 rfl) (List.sublist_append_left [_, _, _] _))).cong (by rw [List.length_set]; rfl)⟩

theorem add_c (u l as_ : Int) (bw br : Nat) (xs : List IntA2) (rc : Nat) (rp : List Value) (bm : Option Nat) (mc : Nat) (mp : List Value) (ms : List BeadMove) (k : Nat) (i d : Int) (D : List Nat) (w : World) (h0 : Hp ⟨w, D⟩ [(some bw, 91, [.int .i64 u, .int .i64 l, sv (some br) (xs).length rc, sv bm (ms).length mc, .int .i64 (as_)]), (some br, 81, flat encIntA2 (xs) ++ rp), (bm, 128, flat encBeadMove (ms) ++ mp)] w) (hg : goodB u l xs = true) (hsr : Sl 2 (some br) xs.length rc (flat encIntA2 xs) rp) (hsm : Sl 3 bm ms.length mc (flat encBeadMove ms) mp) (hml : ms.length ≤ 10000) (hi : i = k) (hC0 : addC xs (k + 1) d) (has : 0 ≤ as_ ∧ as_ ≤ 1000000) : Calls Try.prog 139 ([.pointer (some ⟨bw, 0, none⟩), .int .i64 i, .int .i64 d]).toArray w (fun e w' => ∃ j : Option Nat × Nat × List Value × List BeadMove, (Sl 3 j.1 j.2.2.2.length j.2.1 (flat encBeadMove j.2.2.2) j.2.2.1 ∧ j.2.2.2.length ≤ ms.length + 2 * (k + 1) + 2) ∧ e = .returned (.tuple #[]) ∧ Hp ⟨w, D⟩ [(some bw, 91, [.int .i64 u, .int .i64 l, sv (some br) ((addS (k + 1) xs d).1).length rc, sv j.1 (j.2.2.2).length j.2.1, .int .i64 (as_ + ((addS (k + 1) xs d).2 : Nat))]), (some br, 81, flat encIntA2 ((addS (k + 1) xs d).1) ++ rp), (j.1, 128, flat encBeadMove (j.2.2.2) ++ j.2.2.1)] w') := by
  subst hi
  have h8 := (frameB_ul (goodB_f hg)).2.2.2
  have hlx := hC0.2.2.1
  have hFb := (addS_good hg hC0).2.2.2
  refine calls_ctds h0 Try.func139 Try.ntmps139 rfl rfl ?_
  refine ct_block ?_
  refine ct_loopR (ι := Nat × List IntA2 × Int × Int × Option Nat × Nat × List Value × List BeadMove) (fun p0 => [(1, .int .i64 ((p0.1 : Int) - 1)), (2, .int .i64 p0.2.2.2.1)]) [(0, _)] (fun p0 => [(some bw, 91, [.int .i64 u, .int .i64 l, sv (some br) (p0.2.1).length rc, sv p0.2.2.2.2.1 (p0.2.2.2.2.2.2.2).length p0.2.2.2.2.2.1, .int .i64 (p0.2.2.1)]), (some br, 81, flat encIntA2 (p0.2.1) ++ rp), (p0.2.2.2.2.1, 128, flat encBeadMove (p0.2.2.2.2.2.2.2) ++ p0.2.2.2.2.2.2.1)]) (fun p0 => goodB u l p0.2.1 = true ∧ addC p0.2.1 p0.1 p0.2.2.2.1 ∧ p0.2.1.length = xs.length ∧ (addS p0.1 p0.2.1 p0.2.2.2.1).1 = (addS (k + 1) xs d).1 ∧ p0.2.2.1 + ((addS p0.1 p0.2.1 p0.2.2.2.1).2 : Nat) = as_ + ((addS (k + 1) xs d).2 : Nat) ∧ Sl 3 p0.2.2.2.2.1 p0.2.2.2.2.2.2.2.length p0.2.2.2.2.2.1 (flat encBeadMove p0.2.2.2.2.2.2.2) p0.2.2.2.2.2.2.1 ∧ (0 < p0.2.2.2.1 → p0.2.2.2.2.2.2.2.length + 2 * p0.1 ≤ ms.length + 2 * (k + 1)) ∧ p0.2.2.2.2.2.2.2.length + 2 * p0.1 ≤ ms.length + 2 * (k + 1) + 2) (fun p0 => 2 * p0.1 + (if 0 < p0.2.2.2.1 then 1 else 0)) ((k + 1, xs, as_, d, bm, mc, mp, ms)) (Sub.cons rfl Sub.nil) (fun _ hq => hq) (by (repeat' (first | exact Sub.nil | refine Sub.cons ?_ ?_)); all_goals (first | rfl | exact lkInt rfl (by omega))) ⟨hg, hC0, rfl, rfl, rfl, hsm, fun _ => by dsimp only; omega, by dsimp only; omega⟩ (fun p0 hp0 => ?_)
  obtain ⟨p, ys, as2, e, bm2, mc2, mp2, ms2⟩ := p0
  obtain ⟨hg2, hC, hyl, hF, hA, hsm2, hm1, hm2⟩ := hp0
  dsimp only at hg2 hC hyl hF hA hsm2 hm1 hm2 ⊢
  have hsr2 := slSameG encIntA2_len hsr hyl
  refine ct_seq ?_
  refine ct_seq ?_
  refine ct_reg ?_
  refine rl_val gw_none (ov_move rfl) rfl ?_
  refine rl_val gw_none (ov_gtr rfl rfl) rfl ?_
  refine rl_nil ?_
  refine at_then ?_
  first | refine ct_dec rfl (fun h1 => ?_) (fun h1 => ?_) | refine ct_ndec rfl (fun h1 => ?_) (fun h1 => ?_) | refine ct_eq rfl (fun h1 => ?_) (fun h1 => ?_) | refine ct_ne rfl (fun h1 => ?_) (fun h1 => ?_) | refine ct_not rfl (fun h1 => ?_) (fun h1 => ?_) | refine ct_cond rfl (fun h1 => ?_) (fun h1 => ?_)
  ·
    have he0 : 0 < e := by omega
    obtain ⟨q, rfl⟩ : ∃ q, p = q + 1 := by
      rcases Nat.eq_zero_or_pos p with rfl | hp1
      · exact absurd (addC_zero hg2 hC) (by omega)
      · exact ⟨p - 1, by omega⟩
    have hq : q < ys.length := by have := hC.2.2.1; omega
    have hr := good_rv hg2 q
    have he9 := hC.2.1
    have hp8 := hC.2.2.1
    have hFb2 := (addS_good hg2 hC).2.2.2
    have hst := add_step hg2 hC
    obtain ⟨e1, e2⟩ := addS_yes (p := q) (xs := ys) he0
    refine ct_skip ?_
    refine at_then ?_
    refine ct_block ?_
    refine ct_seq ?_
    refine ct_reg ?_
    refine rl_val gw_none (ov_move rfl) rfl ?_
    refine rl_val gw_none (ov_move rfl) rfl ?_
    refine rl_callv gw_none goes151 rfl (fun w1 hp => value_c u l bw ys _ _ q _ _ (by omega) hq hg2 (hp.own 0 rfl rfl) (hp.slsr 1 rfl hsr2)) rfl ?_
    refine rl_val gw_none (ov_move rfl) rfl ?_
    refine rl_val gw_none (ov_add rfl rfl (by omega)) rfl ?_
    refine rl_val gw_none (ov_assign rfl) rfl ?_
    refine rl_nil ?_
    refine at_then ?_
    refine ct_seq ?_
    refine ct_reg ?_
    refine rl_val gw_none (ov_move rfl) rfl ?_
    refine rl_val gw_none (ov_move rfl) rfl ?_
    refine rl_val gw_none (ov_move rfl) rfl ?_
    refine rl_val gw_none (ov_rem rfl rfl (by omega) (by omega)) rfl ?_
    refine rl_calld (ι := Option Nat × Nat × List Value × List BeadMove) (fun _ => .tuple #[]) [_, _, _] [] (fun j => [(some bw, 91, [.int .i64 u, .int .i64 l, sv (some br) (ys.set q (rodFor ((rvAt ys q + e) % 10))).length rc, sv j.1 (j.2.2.2).length j.2.1, .int .i64 (as2)]), (some br, 81, flat encIntA2 (ys.set q (rodFor ((rvAt ys q + e) % 10))) ++ rp), (j.1, 128, flat encBeadMove (j.2.2.2) ++ j.2.2.1)]) (fun j => Sl 3 j.1 j.2.2.2.length j.2.1 (flat encBeadMove j.2.2.2) j.2.2.1 ∧ j.2.2.2.length ≤ (ms2).length + 2) gw_none goes152 rfl (fun _ hq => (((hq).pull 2 rfl).pull 2 rfl).pull 2 rfl) (fun w1 hp h0 => turn_c u l as2 bw br ys rc rp bm2 mc2 mp2 ms2 q _ _ _ _ h0 hg2 hsr2 hsm2 (by omega) (by omega) hq (by omega)) rfl (fun jt ht => ?_)
    refine rl_nil ?_
    refine at_then ?_
    refine ct_seq ?_
    refine ct_reg ?_
    refine rl_val gw_none (ov_move rfl) rfl ?_
    refine rl_val gw_none (ov_quo rfl rfl (by omega) (by omega) (by omega)) rfl ?_
    refine rl_val gw_none (ov_assign rfl) rfl ?_
    refine rl_nil ?_
    refine at_then ?_
    refine ct_seq ?_
    refine ct_reg ?_
    refine rl_val gw_none (ov_move rfl) rfl ?_
    refine rl_val gw_none (ov_gtr rfl rfl) rfl ?_
    refine rl_nil ?_
    refine at_then ?_
    first | refine ct_dec rfl (fun h2 => ?_) (fun h2 => ?_) | refine ct_ndec rfl (fun h2 => ?_) (fun h2 => ?_) | refine ct_eq rfl (fun h2 => ?_) (fun h2 => ?_) | refine ct_ne rfl (fun h2 => ?_) (fun h2 => ?_) | refine ct_not rfl (fun h2 => ?_) (fun h2 => ?_) | refine ct_cond rfl (fun h2 => ?_) (fun h2 => ?_)
    ·
      refine ct_seq ?_
      refine ct_reg ?_
      refine rl_val gw_none (ov_move rfl) rfl ?_
      refine rl_val gw_none (ov_nilc rfl) rfl ?_
      refine rl_val gw_none (ov_field fo91_2 rfl) rfl ?_
      first | refine rl_val gw_none (ov_load 0 sc3 rfl rfl rfl) rfl ?_ | refine rl_val gw_none (ov_load 0 sc3 rfl rfl (by assumption)) rfl ?_
      refine rl_val gw_none (ov_add rfl rfl (by omega)) rfl ?_
      refine rl_val gw_none (ov_nilc rfl) rfl ?_
      refine rl_val gw_none (ov_field fo91_2 rfl) rfl ?_
      refine rl_store [] sz3 rfl rfl rfl rfl rfl (Nat.le_of_ble_eq_true rfl) ?_
      refine rl_nil ?_
      refine at_then ?_
      refine ct_reg ?_
      refine rl_val gw_none (ov_move rfl) rfl ?_
      refine rl_val gw_none (ov_sub rfl rfl (by omega)) rfl ?_
      refine rl_val gw_none (ov_assign rfl) rfl ?_
      refine rl_nil ?_
      refine at_block ?_
      rw [if_pos (by omega)] at e2
      have hlen2 : (ys.set q (rodFor ((rvAt ys q + e) % 10))).length = ys.length := List.length_set
      exact at_backR (q, ys.set q (rodFor ((rvAt ys q + e) % 10)), as2 + 1, (rvAt ys q + e) / 10, jt) ⟨hst.2.1, hst.2.2.1, by dsimp only; rw [hlen2]; exact hyl, by dsimp only; rw [← e1]; exact hF, by dsimp only; omega, ht.1, fun _ => by have := ht.2; have := hm1 he0; dsimp only at *; omega, by have := ht.2; have := hm1 he0; dsimp only at *; omega⟩ (by dsimp only; rw [if_pos he0]; split <;> omega) (by (repeat' (first | exact Sub.nil | refine Sub.cons ?_ ?_)); all_goals (first | rfl | exact lkInt rfl (by omega))) (Sub.cons rfl Sub.nil) (fun _ hp => (Hp.sub (Hp.pull (Hp.pull (Hp.pull hp 2 rfl) 2 rfl) 2 rfl) (List.sublist_append_left [_, _, _] _)))
    ·
      refine ct_skip ?_
      refine at_block ?_
      have hz : (rvAt ys q + e) / 10 = 0 := by omega
      have hlen2 : (ys.set q (rodFor ((rvAt ys q + e) % 10))).length = ys.length := List.length_set
      have hnn := goodB_num hst.2.1
      rw [hz, addS_no _ _ (Int.le_refl 0)] at e1 e2
      simp only [Int.lt_irrefl, if_false, Nat.add_zero] at e2
      exact at_backR (q + 1, ys.set q (rodFor ((rvAt ys q + e) % 10)), as2, 0, jt) ⟨hst.2.1, ⟨Int.le_refl 0, by dsimp only; omega, by dsimp only; rw [hlen2]; exact hC.2.2.1, by dsimp only; rw [Int.zero_mul, Int.add_zero]; omega⟩, by dsimp only; rw [hlen2]; exact hyl, by dsimp only; rw [addS_no _ _ (Int.le_refl 0), ← hF, e1], by dsimp only; rw [addS_no _ _ (Int.le_refl 0), ← hA, e2], ht.1, fun hh => absurd hh (by dsimp only; decide), by have := ht.2; have := hm1 he0; dsimp only at *; omega⟩ (by dsimp only; rw [if_pos he0]; split <;> omega) (by (repeat' (first | exact Sub.nil | refine Sub.cons ?_ ?_)); all_goals (first | rfl | exact lkInt rfl (by omega))) (Sub.cons rfl Sub.nil) (fun _ hp => (Hp.sub (Hp.pull (Hp.pull (Hp.pull hp 2 rfl) 2 rfl) 2 rfl) (List.sublist_append_left [_, _, _] _)))
  ·
    have hF2 : ys = (addS (k + 1) xs d).1 := by rw [addS_no _ _ (by omega)] at hF; exact hF
    have hA2 : as2 = as_ + ((addS (k + 1) xs d).2 : Nat) := by rw [addS_no _ _ (by omega)] at hA; simpa using hA
    refine ct_exit ?_
    refine at_then_exit ?_
    refine at_then_exit ?_
    refine at_block_hit ?_
    refine at_end ?_
    refine at_ret0 Try.results139 (fun w1 hp => ?_)
    rw [← hF2, ← hA2]
    exact ⟨(bm2, mc2, mp2, ms2), ⟨hsm2, by dsimp only; omega⟩, rfl, (Hp.sub (Hp.pull (Hp.pull (Hp.pull hp 2 rfl) 2 rfl) 2 rfl) (List.sublist_append_left [_, _, _] _))⟩

theorem take_c (u l as_ : Int) (bw br : Nat) (xs : List IntA2) (rc : Nat) (rp : List Value) (bm : Option Nat) (mc : Nat) (mp : List Value) (ms : List BeadMove) (k : Nat) (i d : Int) (D : List Nat) (w : World) (h0 : Hp ⟨w, D⟩ [(some bw, 91, [.int .i64 u, .int .i64 l, sv (some br) (xs).length rc, sv bm (ms).length mc, .int .i64 (as_)]), (some br, 81, flat encIntA2 (xs) ++ rp), (bm, 128, flat encBeadMove (ms) ++ mp)] w) (hg : goodB u l xs = true) (hsr : Sl 2 (some br) xs.length rc (flat encIntA2 xs) rp) (hsm : Sl 3 bm ms.length mc (flat encBeadMove ms) mp) (hml : ms.length ≤ 10000) (hi : i = k) (hC0 : takeC xs (k + 1) d) (has : 0 ≤ as_ ∧ as_ ≤ 1000000) : Calls Try.prog 136 ([.pointer (some ⟨bw, 0, none⟩), .int .i64 i, .int .i64 d]).toArray w (fun e w' => ∃ j : Option Nat × Nat × List Value × List BeadMove, (Sl 3 j.1 j.2.2.2.length j.2.1 (flat encBeadMove j.2.2.2) j.2.2.1 ∧ j.2.2.2.length ≤ ms.length + 2 * (k + 1) + 2) ∧ e = .returned (.tuple #[]) ∧ Hp ⟨w, D⟩ [(some bw, 91, [.int .i64 u, .int .i64 l, sv (some br) ((takeS (k + 1) xs d).1).length rc, sv j.1 (j.2.2.2).length j.2.1, .int .i64 (as_ + ((takeS (k + 1) xs d).2 : Nat))]), (some br, 81, flat encIntA2 ((takeS (k + 1) xs d).1) ++ rp), (j.1, 128, flat encBeadMove (j.2.2.2) ++ j.2.2.1)] w') := by
  subst hi
  have h8 := (frameB_ul (goodB_f hg)).2.2.2
  have hlx := hC0.2.2.1
  have hFb := (takeS_good hg hC0).2.2.2
  refine calls_ctds h0 Try.func136 Try.ntmps136 rfl rfl ?_
  refine ct_block ?_
  refine ct_loopR (ι := Nat × List IntA2 × Int × Int × Option Nat × Nat × List Value × List BeadMove) (fun p0 => [(1, .int .i64 ((p0.1 : Int) - 1)), (2, .int .i64 p0.2.2.2.1)]) [(0, _)] (fun p0 => [(some bw, 91, [.int .i64 u, .int .i64 l, sv (some br) (p0.2.1).length rc, sv p0.2.2.2.2.1 (p0.2.2.2.2.2.2.2).length p0.2.2.2.2.2.1, .int .i64 (p0.2.2.1)]), (some br, 81, flat encIntA2 (p0.2.1) ++ rp), (p0.2.2.2.2.1, 128, flat encBeadMove (p0.2.2.2.2.2.2.2) ++ p0.2.2.2.2.2.2.1)]) (fun p0 => goodB u l p0.2.1 = true ∧ takeC p0.2.1 p0.1 p0.2.2.2.1 ∧ p0.2.1.length = xs.length ∧ (takeS p0.1 p0.2.1 p0.2.2.2.1).1 = (takeS (k + 1) xs d).1 ∧ p0.2.2.1 + ((takeS p0.1 p0.2.1 p0.2.2.2.1).2 : Nat) = as_ + ((takeS (k + 1) xs d).2 : Nat) ∧ Sl 3 p0.2.2.2.2.1 p0.2.2.2.2.2.2.2.length p0.2.2.2.2.2.1 (flat encBeadMove p0.2.2.2.2.2.2.2) p0.2.2.2.2.2.2.1 ∧ (0 < p0.2.2.2.1 → p0.2.2.2.2.2.2.2.length + 2 * p0.1 ≤ ms.length + 2 * (k + 1)) ∧ p0.2.2.2.2.2.2.2.length + 2 * p0.1 ≤ ms.length + 2 * (k + 1) + 2) (fun p0 => p0.1) ((k + 1, xs, as_, d, bm, mc, mp, ms)) (Sub.cons rfl Sub.nil) (fun _ hq => hq) (by (repeat' (first | exact Sub.nil | refine Sub.cons ?_ ?_)); all_goals (first | rfl | exact lkInt rfl (by omega))) ⟨hg, hC0, rfl, rfl, rfl, hsm, fun _ => by dsimp only; omega, by dsimp only; omega⟩ (fun p0 hp0 => ?_)
  obtain ⟨p, ys, as2, e, bm2, mc2, mp2, ms2⟩ := p0
  obtain ⟨hg2, hC, hyl, hF, hA, hsm2, hm1, hm2⟩ := hp0
  dsimp only at hg2 hC hyl hF hA hsm2 hm1 hm2 ⊢
  have hsr2 := slSameG encIntA2_len hsr hyl
  refine ct_seq ?_
  refine ct_seq ?_
  refine ct_reg ?_
  refine rl_val gw_none (ov_move rfl) rfl ?_
  refine rl_val gw_none (ov_gtr rfl rfl) rfl ?_
  refine rl_nil ?_
  refine at_then ?_
  first | refine ct_dec rfl (fun h1 => ?_) (fun h1 => ?_) | refine ct_ndec rfl (fun h1 => ?_) (fun h1 => ?_) | refine ct_eq rfl (fun h1 => ?_) (fun h1 => ?_) | refine ct_ne rfl (fun h1 => ?_) (fun h1 => ?_) | refine ct_not rfl (fun h1 => ?_) (fun h1 => ?_) | refine ct_cond rfl (fun h1 => ?_) (fun h1 => ?_)
  ·
    have he0 : 0 < e := by omega
    obtain ⟨q, rfl⟩ : ∃ q, p = q + 1 := by
      rcases Nat.eq_zero_or_pos p with rfl | hp1
      · exact absurd (takeC_zero hg2 hC) (by omega)
      · exact ⟨p - 1, by omega⟩
    have hq : q < ys.length := by have := hC.2.2.1; omega
    have hr := good_rv hg2 q
    have he9 := hC.2.1
    have hp8 := hC.2.2.1
    have hFb2 := (takeS_good hg2 hC).2.2.2
    refine ct_skip ?_
    refine at_then ?_
    refine ct_block ?_
    refine ct_seq ?_
    refine ct_reg ?_
    refine rl_val gw_none (ov_move rfl) rfl ?_
    refine rl_val gw_none (ov_move rfl) rfl ?_
    refine rl_callv gw_none goes151 rfl (fun w1 hp => value_c u l bw ys _ _ q _ _ (by omega) hq hg2 (hp.own 0 rfl rfl) (hp.slsr 1 rfl hsr2)) rfl ?_
    refine rl_val gw_none (ov_move rfl) rfl ?_
    refine rl_val gw_none (ov_sub rfl rfl (by omega)) rfl ?_
    refine rl_val gw_none (ov_assign rfl) rfl ?_
    refine rl_nil ?_
    refine at_then ?_
    refine ct_seq ?_
    refine ct_seq ?_
    refine ct_reg ?_
    refine rl_val gw_none (ov_move rfl) rfl ?_
    refine rl_val gw_none (ov_geq rfl rfl) rfl ?_
    refine rl_nil ?_
    refine at_then ?_
    first | refine ct_dec rfl (fun h2 => ?_) (fun h2 => ?_) | refine ct_ndec rfl (fun h2 => ?_) (fun h2 => ?_) | refine ct_eq rfl (fun h2 => ?_) (fun h2 => ?_) | refine ct_ne rfl (fun h2 => ?_) (fun h2 => ?_) | refine ct_not rfl (fun h2 => ?_) (fun h2 => ?_) | refine ct_cond rfl (fun h2 => ?_) (fun h2 => ?_)
    ·
      have hv9 : rvAt ys q - e ≤ 9 := by omega
      have hF2 : ys.set q (rodFor (rvAt ys q - e)) = (takeS (k + 1) xs d).1 := by rw [takeS_fit he0 h2] at hF; exact hF
      have hA2 : as2 = as_ + ((takeS (k + 1) xs d).2 : Nat) := by rw [takeS_fit he0 h2] at hA; simpa using hA
      refine ct_seq ?_
      refine ct_reg ?_
      refine rl_val gw_none (ov_move rfl) rfl ?_
      refine rl_val gw_none (ov_move rfl) rfl ?_
      refine rl_val gw_none (ov_move rfl) rfl ?_
      refine rl_calld (ι := Option Nat × Nat × List Value × List BeadMove) (fun _ => .tuple #[]) [_, _, _] [] (fun j => [(some bw, 91, [.int .i64 u, .int .i64 l, sv (some br) (ys.set q (rodFor ((rvAt ys q - e)))).length rc, sv j.1 (j.2.2.2).length j.2.1, .int .i64 (as2)]), (some br, 81, flat encIntA2 (ys.set q (rodFor ((rvAt ys q - e)))) ++ rp), (j.1, 128, flat encBeadMove (j.2.2.2) ++ j.2.2.1)]) (fun j => Sl 3 j.1 j.2.2.2.length j.2.1 (flat encBeadMove j.2.2.2) j.2.2.1 ∧ j.2.2.2.length ≤ (ms2).length + 2) gw_none goes152 rfl (fun _ hq => (((hq).pull 2 rfl).pull 2 rfl).pull 2 rfl) (fun w1 hp h0 => turn_c u l as2 bw br ys rc rp bm2 mc2 mp2 ms2 q _ _ _ _ h0 hg2 hsr2 hsm2 (by omega) (by omega) hq (by omega)) rfl (fun jt ht => ?_)
      refine rl_nil ?_
      refine at_then ?_
      refine ct_ret ?_
      refine at_then_ret ?_
      refine at_block_ret ?_
      refine at_then_ret ?_
      refine at_block_ret ?_
      refine at_ret0 Try.results136 (fun w1 hp => ?_)
      rw [← hF2, ← hA2]
      exact ⟨jt, ⟨ht.1, by have := ht.2; have := hm1 he0; first | omega | (dsimp only; omega)⟩, rfl, (Hp.sub (Hp.pull (Hp.pull (Hp.pull hp 2 rfl) 2 rfl) 2 rfl) (List.sublist_append_left [_, _, _] _))⟩
    ·
      have hst := take_bor hg2 hC he0 (by omega)
      obtain ⟨e1, e2⟩ := takeS_bor (p := q) (xs := ys) he0 (by omega)
      refine ct_skip ?_
      refine at_then ?_
      refine ct_seq ?_
      refine ct_reg ?_
      refine rl_val gw_none (ov_move rfl) rfl ?_
      refine rl_val gw_none (ov_move rfl) rfl ?_
      refine rl_val gw_none (ov_move rfl) rfl ?_
      refine rl_val gw_none (ov_add rfl rfl (by omega)) rfl ?_
      refine rl_calld (ι := Option Nat × Nat × List Value × List BeadMove) (fun _ => .tuple #[]) [_, _, _] [] (fun j => [(some bw, 91, [.int .i64 u, .int .i64 l, sv (some br) (ys.set q (rodFor ((rvAt ys q - e) + 10))).length rc, sv j.1 (j.2.2.2).length j.2.1, .int .i64 (as2)]), (some br, 81, flat encIntA2 (ys.set q (rodFor ((rvAt ys q - e) + 10))) ++ rp), (j.1, 128, flat encBeadMove (j.2.2.2) ++ j.2.2.1)]) (fun j => Sl 3 j.1 j.2.2.2.length j.2.1 (flat encBeadMove j.2.2.2) j.2.2.1 ∧ j.2.2.2.length ≤ (ms2).length + 2) gw_none goes152 rfl (fun _ hq => (((hq).pull 2 rfl).pull 2 rfl).pull 2 rfl) (fun w1 hp h0 => turn_c u l as2 bw br ys rc rp bm2 mc2 mp2 ms2 q _ _ _ _ h0 hg2 hsr2 hsm2 (by omega) (by omega) hq (by omega)) rfl (fun jt ht => ?_)
      refine rl_nil ?_
      refine at_then ?_
      refine ct_seq ?_
      refine ct_reg ?_
      refine rl_val gw_none (ov_move rfl) rfl ?_
      refine rl_val gw_none (ov_nilc rfl) rfl ?_
      refine rl_val gw_none (ov_field fo91_2 rfl) rfl ?_
      first | refine rl_val gw_none (ov_load 0 sc3 rfl rfl rfl) rfl ?_ | refine rl_val gw_none (ov_load 0 sc3 rfl rfl (by assumption)) rfl ?_
      refine rl_val gw_none (ov_add rfl rfl (by omega)) rfl ?_
      refine rl_val gw_none (ov_nilc rfl) rfl ?_
      refine rl_val gw_none (ov_field fo91_2 rfl) rfl ?_
      refine rl_store [] sz3 rfl rfl rfl rfl rfl (Nat.le_of_ble_eq_true rfl) ?_
      refine rl_nil ?_
      refine at_then ?_
      refine ct_seq ?_
      refine ct_reg ?_
      refine rl_val gw_none (ov_move rfl) rfl ?_
      refine rl_val gw_none (ov_sub rfl rfl (by omega)) rfl ?_
      refine rl_val gw_none (ov_assign rfl) rfl ?_
      refine rl_nil ?_
      refine at_then ?_
      refine ct_reg ?_
      refine rl_val gw_none (ov_assign rfl) rfl ?_
      refine rl_nil ?_
      refine at_block ?_
      have hlen2 : (ys.set q (rodFor ((rvAt ys q - e) + 10))).length = ys.length := List.length_set
      exact at_backR (q, ys.set q (rodFor ((rvAt ys q - e) + 10)), as2 + 1, 1, jt) ⟨hst.2.1, hst.2.2.1, by dsimp only; rw [hlen2]; exact hyl, by dsimp only; rw [← e1]; exact hF, by dsimp only; omega, ht.1, fun _ => by have := ht.2; have := hm1 he0; dsimp only at *; omega, by have := ht.2; have := hm1 he0; dsimp only at *; omega⟩ (by dsimp only; omega) (by (repeat' (first | exact Sub.nil | refine Sub.cons ?_ ?_)); all_goals (first | rfl | exact lkInt rfl (by omega))) (Sub.cons rfl Sub.nil) (fun _ hp => (Hp.sub (Hp.pull (Hp.pull (Hp.pull hp 2 rfl) 2 rfl) 2 rfl) (List.sublist_append_left [_, _, _] _)))
  ·
    have hF2 : ys = (takeS (k + 1) xs d).1 := by rw [takeS_no _ _ (by omega)] at hF; exact hF
    have hA2 : as2 = as_ + ((takeS (k + 1) xs d).2 : Nat) := by rw [takeS_no _ _ (by omega)] at hA; simpa using hA
    refine ct_exit ?_
    refine at_then_exit ?_
    refine at_then_exit ?_
    refine at_block_hit ?_
    refine at_end ?_
    refine at_ret0 Try.results136 (fun w1 hp => ?_)
    rw [← hF2, ← hA2]
    exact ⟨(bm2, mc2, mp2, ms2), ⟨hsm2, by first | omega | (dsimp only; omega)⟩, rfl, (Hp.sub (Hp.pull (Hp.pull (Hp.pull hp 2 rfl) 2 rfl) 2 rfl) (List.sublist_append_left [_, _, _] _))⟩
end Go.Proofs.Ytnnhkpecgchgiaa
