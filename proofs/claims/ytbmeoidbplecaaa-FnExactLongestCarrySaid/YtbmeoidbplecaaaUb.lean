import Derived.Test.YtbmeoidbplecaaaUa
import Derived.Test.YtbmeoidbplecaaaTd
import Derived.KernelRfl
set_option linter.unusedVariables false
set_option linter.unusedSimpArgs false
namespace Go.Proofs.Ytbmeoidbplecaaa
open Go Go.RowKit K
theorem begin_yes (u : Int) (l : Int) (xs : List IntA2) (vxs : Value) (w : World) (zu : In64 u) (zl : In64 l) (hGxs : ∀ y ∈ xs, GIntA2 y) (hsxs : SR w 2 vxs xs.length (flat encIntA2 xs)) (hg : goodB u l xs = true) : Calls Try.prog 20 ([.agg (List.toArray (α := Value) [.int .i64 u, .int .i64 l, vxs])]).toArray w (fun e w' => ∃ q : Nat × Nat × Nat × List Value, Sl 2 (some q.2.1) xs.length q.2.2.1 (flat encIntA2 xs) q.2.2.2 ∧ e = .returned (.tuple #[.pointer (some ⟨q.1, 0, none⟩), .bool true]) ∧ Hp ⟨w, []⟩ [(some q.1, 42, [.int .i64 u, .int .i64 l, sv (some q.2.1) (xs).length q.2.2.1, sv none (([] : List BeadMove)).length 0, .int .i64 (0)]), (some q.2.1, 35, flat encIntA2 (xs) ++ q.2.2.2), (none, 61, flat encBeadMove (([] : List BeadMove)) ++ ([] : List Value))] w') := by
  obtain ⟨axs, capxs, rfl, hcapxs, hmaxxs⟩ := hsxs.slice
  have hlenxs := hsxs.len_le
  have hf := goodB_f hg
  have hs := goodB_s hg
  have h8 := (frameB_ul hf).2.2.2
  have hl1 := (frameB_ul hf).2.2.1
  refine calls_ct Try.func20 Try.ntmps20 rfl rfl ?_
  refine ct_seq ?_
  refine ct_reg ?_
  refine rl_box rfl rfl (fun N1 => ?_)
  refine rl_val gw_none (ov_assign rfl) rfl ?_
  refine rl_val gw_none (ov_assign rfl) rfl ?_
  refine rl_nil ?_
  refine at_then ?_
  refine ct_seq ?_
  refine ct_seq ?_
  refine ct_reg ?_
  first | refine rl_val gw_none (ov_loadall 0 ag28 rfl rfl rfl) rfl ?_ | refine rl_val gw_none (ov_loadp 0 ag28 rfl rfl (vs := [_, _, _]) rfl rfl) rfl ?_ | refine rl_val gw_none (ov_loada 0 ag28 rfl rfl rfl (by assumption)) rfl ?_
  refine rl_callv gw_none goes28 rfl (fun w1 hp => iIsFrame_c u l xs _ _ zu zl hGxs (hsxs.ext hp.ext0)) rfl ?_
  refine rl_val gw_none (ov_not rfl) rfl ?_
  refine rl_val gw_none (ov_move rfl) rfl ?_
  refine rl_split (t := 7) rfl (fun g1 => ?_) (fun g1 => ?_)
  ·
    rw [hf] at g1; cases g1
  ·
    have g1' := g1
    try simp only [Bool.not_eq_true', Bool.not_eq_false', Bool.not_not, decide_eq_true_eq, decide_eq_false_iff_not, beq_iff_eq, beq_eq_false_iff_ne, bne_iff_ne, bne_eq_false_iff_eq, Bool.and_eq_true, Bool.or_eq_true, Bool.and_eq_false_iff, Bool.or_eq_false_iff, inB] at g1'
    first | refine rl_val (gw_some rfl rfl g1) (ov_loadall 0 ag28 rfl rfl rfl) rfl ?_ | refine rl_val (gw_some rfl rfl g1) (ov_loadp 0 ag28 rfl rfl (vs := [_, _, _]) rfl rfl) rfl ?_ | refine rl_val (gw_some rfl rfl g1) (ov_loada 0 ag28 rfl rfl rfl (by assumption)) rfl ?_
    refine rl_callv (gw_some rfl rfl g1) goes29 rfl (fun w1 hp => standard_c u l xs _ _ zu zl hGxs (hsxs.ext hp.ext0)) rfl ?_
    refine rl_val (gw_some rfl rfl g1) (ov_not rfl) rfl ?_
    refine rl_val gw_none (ov_pick_f rfl g1 rfl) rfl ?_
    refine rl_nil ?_
    refine at_then ?_
    first | refine ct_dec rfl (fun h1 => ?_) (fun h1 => ?_) | refine ct_ndec rfl (fun h1 => ?_) (fun h1 => ?_) | refine ct_eq rfl (fun h1 => ?_) (fun h1 => ?_) | refine ct_ne rfl (fun h1 => ?_) (fun h1 => ?_) | refine ct_not rfl (fun h1 => ?_) (fun h1 => ?_) | refine ct_cond rfl (fun h1 => ?_) (fun h1 => ?_)
    ·
      rw [hs] at h1; cases h1
    ·
      refine ct_skip ?_
      refine at_then ?_
      refine ct_seq ?_
      refine ct_reg ?_
      first | refine rl_val gw_none (ov_loadall 0 ag28 rfl rfl rfl) rfl ?_ | refine rl_val gw_none (ov_loadp 0 ag28 rfl rfl (vs := [_, _, _]) rfl rfl) rfl ?_ | refine rl_val gw_none (ov_loada 0 ag28 rfl rfl rfl (by assumption)) rfl ?_
      refine rl_callsl (ι := Nat × List Value) (fun i bo => .agg [.int .i64 u, .int .i64 l, sv bo (xs).length i.1].toArray) (fun i => flat encIntA2 (xs) ++ i.2) (fun i bo => Sl 2 bo (xs).length i.1 (flat encIntA2 (xs)) i.2) goes30 rfl (fun w1 hp => own_c u l xs _ _ zu zl hGxs (hsxs.ext hp.ext0) h8) rfl (fun iow boow hsow => ?_)
      obtain ⟨bow, rfl⟩ := Sl.some hsow (by omega)
      refine rl_val gw_none (ov_build rfl (bu42_0 _ _ _ _ _)) rfl ?_
      refine rl_box rfl rfl (fun N2 => ?_)
      refine rl_val gw_none (ov_assign rfl) rfl ?_
      refine rl_val gw_none (ov_assign rfl) rfl ?_
      refine rl_nil ?_
      refine at_then ?_
      refine ct_ret ?_
      refine at_ret2 Try.results20 (ro_tmp rfl) (ro_tmp rfl) (fun w1 hp => ?_)
      exact ⟨(N2, bow, iow.1, iow.2), hsow, rfl, (((((Hp.sub (Hp.pull (Hp.pull hp 1 rfl) 1 rfl) (List.sublist_append_left [_, _] _))).nil 61).pull 2 rfl).pull 2 rfl).cong rfl⟩
end Go.Proofs.Ytbmeoidbplecaaa
