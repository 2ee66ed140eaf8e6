import Derived.Test.YtjhlhkglpecdbaaZm
import Derived.KernelRfl
set_option linter.unusedVariables false
set_option linter.unusedSimpArgs false
namespace Go.Proofs.Ytjhlhkglpecdbaa
open Go Go.RowKit K
theorem law_ReachedIn (u : Int) (l : Int) (xs : List IntA2) (mv : Int) (vxs : Value) (w : World) (zu : In64 u) (zl : In64 l) (hGxs : ∀ y ∈ xs, GIntA2 y) (hsxs : SR w 2 vxs xs.length (flat encIntA2 xs)) (zmv : In64 mv) : Calls Try.prog 3 ([.agg (List.toArray (α := Value) [.int .i64 u, .int .i64 l, vxs]), .int .i64 mv]).toArray w (fun e w' => e = .returned (.bool true) ∧ Ext w w') := by
  have hlenxs := hsxs.len_le
  have hrl := rchL_len u l xs mv
  refine calls_ct Try.func3 Try.ntmps3 rfl rfl ?_
  refine ct_seq ?_
  refine ct_reg ?_
  refine rl_box rfl rfl (fun N1 => ?_)
  refine rl_val gw_none (ov_assign rfl) rfl ?_
  refine rl_nil ?_
  refine at_then ?_
  refine ct_seq ?_
  refine ct_reg ?_
  refine rl_val gw_none (ov_assign rfl) rfl ?_
  refine rl_nil ?_
  refine at_then ?_
  refine ct_seq ?_
  refine ct_reg ?_
  first | refine rl_val gw_none (ov_loadall 0 ag24 rfl rfl rfl) rfl ?_ | refine rl_val gw_none (ov_loadp 0 ag24 rfl rfl (vs := [_, _, _]) rfl rfl) rfl ?_ | refine rl_val gw_none (ov_loada 0 ag24 rfl rfl rfl (by assumption)) rfl ?_
  refine rl_val gw_none (ov_move rfl) rfl ?_
  refine rl_callx (ι := Int) (fun r => .int .i64 r) (fun r => r < 0 ∨ (0 ≤ r ∧ r ≤ 1048576 - xs.length)) gw_none goes4 rfl (fun w1 hp => szFrame_c 1048576 u l xs _ _ zu zl hGxs (hsxs.ext hp.ext0) (by omega)) rfl (fun rxs hrxs => ?_)
  refine rl_val gw_none (ov_assign rfl) rfl ?_
  refine rl_nil ?_
  refine at_then ?_
  refine ct_seq ?_
  refine ct_seq ?_
  refine ct_reg ?_
  refine rl_val gw_none (ov_move rfl) rfl ?_
  refine rl_val gw_none (ov_lss rfl rfl) rfl ?_
  refine rl_nil ?_
  refine at_then ?_
  first | refine ct_dec rfl (fun h1 => ?_) (fun h1 => ?_) | refine ct_ndec rfl (fun h1 => ?_) (fun h1 => ?_) | refine ct_eq rfl (fun h1 => ?_) (fun h1 => ?_) | refine ct_ne rfl (fun h1 => ?_) (fun h1 => ?_) | refine ct_not rfl (fun h1 => ?_) (fun h1 => ?_) | refine ct_cond rfl (fun h1 => ?_) (fun h1 => ?_)
  ·
    refine ct_seq ?_
    refine ct_reg ?_
    refine rl_val gw_none (ov_assign rfl) rfl ?_
    refine rl_nil ?_
    refine at_then ?_
    refine ct_ret ?_
    refine at_then_ret ?_
    refine at_ret1 Try.results3 (ro_tmp rfl) (fun w1 hp => ?_)
    exact ⟨rfl, hp.ext0⟩
  ·
    have hbxs : xs.length ≤ 1048576 := by omega
    have hmxs : xs.length ≤ maxLen := by unfold maxLen; omega
    refine ct_skip ?_
    refine at_then ?_
    refine ct_seq ?_
    refine ct_reg ?_
    first | refine rl_val gw_none (ov_loadall 0 ag24 rfl rfl rfl) rfl ?_ | refine rl_val gw_none (ov_loadp 0 ag24 rfl rfl (vs := [_, _, _]) rfl rfl) rfl ?_ | refine rl_val gw_none (ov_loada 0 ag24 rfl rfl rfl (by assumption)) rfl ?_
    refine rl_calle (ι := Nat) (fun q => .agg (List.toArray (α := Value) [.int .i64 u, .int .i64 l, .slice (some ⟨q, 0, none⟩) xs.length xs.length])) (fun q => [(some q, _, flat encIntA2 xs)]) (fun _ => True) goes6 rfl (fun w1 hp => toFrame_c u l xs _ _ zu zl hGxs (hsxs.ext hp.ext0) hbxs) rfl (fun qwxs _ => ?_)
    refine rl_val gw_none (ov_move rfl) rfl ?_
    refine rl_callsl (ι := Nat × List Value) (fun i bo => .tuple #[(sv bo ((rchL u l xs mv).length) i.1), .bool (rchB u l xs mv)]) (fun i => ints (rchL u l xs mv) ++ i.2) (fun i bo => Sl 1 bo ((rchL u l xs mv).length) i.1 (ints (rchL u l xs mv)) i.2) goes5 rfl (fun w1 hp => sReachedIn_c u l xs mv _ _ zu zl hGxs (hp.sr1 0 rfl (flat_length encIntA2_len _) hmxs) zmv) rfl (fun iW0 boW0 hsW0 => ?_)
    refine rl_val gw_none (ov_move rfl) rfl ?_
    refine rl_val gw_none (ov_extract rfl rfl) rfl ?_
    refine rl_val gw_none (ov_extract rfl rfl) rfl ?_
    refine rl_val gw_none (ov_assign rfl) rfl ?_
    refine rl_val gw_none (ov_assign rfl) rfl ?_
    refine rl_nil ?_
    refine at_then ?_
    refine ct_seq ?_
    refine ct_reg ?_
    first | refine rl_val gw_none (ov_loadall 2 ag24 rfl rfl rfl) rfl ?_ | refine rl_val gw_none (ov_loadp 2 ag24 rfl rfl (vs := [_, _, _]) rfl rfl) rfl ?_ | refine rl_val gw_none (ov_loada 2 ag24 rfl rfl rfl (by assumption)) rfl ?_
    refine rl_calle (ι := Nat) (fun q => .agg (List.toArray (α := Value) [.int .i64 u, .int .i64 l, .slice (some ⟨q, 0, none⟩) xs.length xs.length])) (fun q => [(some q, _, flat encIntA2 xs)]) (fun _ => True) goes6 rfl (fun w1 hp => toFrame_c u l xs _ _ zu zl hGxs (hsxs.ext hp.ext0) hbxs) rfl (fun qxxs _ => ?_)
    refine rl_alloc ze29 rfl (fun N2 => ?_)
    refine rl_store [] sz29 rfl rfl rfl rfl rfl (Nat.le_of_ble_eq_true rfl) ?_
    refine rl_nil ?_
    refine at_then ?_
    refine ct_seq ?_
    refine ct_reg ?_
    first | refine rl_val gw_none (ov_loadall 0 ag29 rfl rfl rfl) rfl ?_ | refine rl_val gw_none (ov_loadp 0 ag29 rfl rfl (vs := [_, _, _]) rfl rfl) rfl ?_ | refine rl_val gw_none (ov_loada 0 ag29 rfl rfl rfl (by assumption)) rfl ?_
    refine rl_val gw_none (ov_move rfl) rfl ?_
    refine rl_callsl (ι := Nat × List Value) (fun i bo => .tuple #[(sv bo ((rchL u l xs mv).length) i.1), .bool (rchB u l xs mv)]) (fun i => ints (rchL u l xs mv) ++ i.2) (fun i bo => Sl 1 bo ((rchL u l xs mv).length) i.1 (ints (rchL u l xs mv)) i.2) goes7 rfl (fun w1 hp => iReachedIn_c u l xs mv _ _ zu zl hGxs (hp.sr1 1 rfl (flat_length encIntA2_len _) hmxs) zmv) rfl (fun iG0 boG0 hsG0 => ?_)
    refine rl_val gw_none (ov_move rfl) rfl ?_
    refine rl_val gw_none (ov_extract rfl rfl) rfl ?_
    refine rl_val gw_none (ov_extract rfl rfl) rfl ?_
    refine rl_val gw_none (ov_assign rfl) rfl ?_
    refine rl_val gw_none (ov_assign rfl) rfl ?_
    refine rl_nil ?_
    refine at_then ?_
    refine ct_seq ?_
    refine ct_seq ?_
    refine ct_reg ?_
    refine rl_val gw_none (ov_move rfl) rfl ?_
    refine rl_val gw_none (ov_move rfl) rfl ?_
    refine rl_callv gw_none goes8 rfl (fun w1 hp => eqIntS_c _ _ _ _ (hp.slsr 0 rfl hsG0) (hp.slsr 3 rfl hsW0)) rfl ?_
    refine rl_val gw_none (ov_not rfl) rfl ?_
    refine rl_val gw_none (ov_move rfl) rfl ?_
    refine rl_val (gw_some rfl rfl rfl) (ov_move rfl) rfl ?_
    refine rl_val (gw_some rfl rfl rfl) (ov_move rfl) rfl ?_
    refine rl_val (gw_some rfl rfl rfl) (ov_neb Try.underlying4 rfl rfl) rfl ?_
    refine rl_val gw_none (ov_pick_f rfl rfl rfl) rfl ?_
    refine rl_nil ?_
    refine at_then ?_
    first | refine ct_dec rfl (fun h2 => ?_) (fun h2 => ?_) | refine ct_ndec rfl (fun h2 => ?_) (fun h2 => ?_) | refine ct_eq rfl (fun h2 => ?_) (fun h2 => ?_) | refine ct_ne rfl (fun h2 => ?_) (fun h2 => ?_) | refine ct_not rfl (fun h2 => ?_) (fun h2 => ?_) | refine ct_cond rfl (fun h2 => ?_) (fun h2 => ?_)
    ·
      exfalso; first | omega | exact absurd rfl h2 | (simp at h2; done) | (simp_all; done)
    ·
      refine ct_skip ?_
      refine at_then ?_
      refine ct_seq ?_
      refine ct_seq ?_
      refine ct_dre 3 [0, 1, 2, 3, 4] [2] (by kernel_rfl) (by kernel_rfl) ?_
      first | refine qe_val rfl gw_none (ov_loadall 1 ag29 rfl rfl rfl) rfl ?_ | refine qe_val rfl gw_none (ov_loadp 1 ag29 rfl rfl (vs := [_, _, _]) rfl rfl) rfl ?_ | refine qe_val rfl gw_none (ov_loada 1 ag29 rfl rfl rfl (by assumption)) rfl ?_
      first | refine qe_val rfl gw_none (ov_loadall 5 ag24 rfl rfl rfl) rfl ?_ | refine qe_val rfl gw_none (ov_loadp 5 ag24 rfl rfl (vs := [_, _, _]) rfl rfl) rfl ?_ | refine qe_val rfl gw_none (ov_loada 5 ag24 rfl rfl rfl (by assumption)) rfl ?_
      refine qe_calle (ι := Nat) (fun q => .agg (List.toArray (α := Value) [.int .i64 u, .int .i64 l, .slice (some ⟨q, 0, none⟩) xs.length xs.length])) (fun q => [(some q, _, flat encIntA2 xs)]) (fun _ => True) rfl goes6 rfl (fun w1 hp => toFrame_c u l xs _ _ zu zl hGxs (hsxs.ext hp.ext0) hbxs) rfl (fun qcxs _ => ?_)
      refine qe_nil ?_
      refine rl_callv gw_none goes9 rfl (fun w1 hp => eqFrame_c u l xs _ _ _  (hp.sr1 3 rfl (flat_length encIntA2_len _) hmxs) (hp.sr1 0 rfl (flat_length encIntA2_len _) hmxs)) rfl ?_
      refine rl_val gw_none (ov_not rfl) rfl ?_
      refine rl_nil ?_
      refine at_then ?_
      refine ct_false rfl rfl ?_
      refine ct_skip ?_
      refine at_then ?_
      refine ct_seq ?_
      refine ct_reg ?_
      refine rl_val gw_none (ov_assign rfl) rfl ?_
      refine rl_nil ?_
      refine at_then ?_
      refine ct_seq ?_
      refine ct_reg ?_
      first | refine rl_val gw_none (ov_loadall 2 ag29 rfl rfl rfl) rfl ?_ | refine rl_val gw_none (ov_loadp 2 ag29 rfl rfl (vs := [_, _, _]) rfl rfl) rfl ?_ | refine rl_val gw_none (ov_loada 2 ag29 rfl rfl rfl (by assumption)) rfl ?_
      refine rl_val gw_none (ov_move rfl) rfl ?_
      refine rl_callm [_, _, _] goes10 rfl rfl (fun w1 hp => markFrame_m _ _ _ _ _ _ _ _ (hp.at (i := 3) rfl) (flat_length encIntA2_len _) (by omega)) rfl ?_
      refine rl_val gw_none (ov_assign rfl) rfl ?_
      refine rl_nil ?_
      refine at_then ?_
      refine ct_seq ?_
      refine ct_seq ?_
      refine ct_reg ?_
      refine rl_val gw_none (ov_move rfl) rfl ?_
      refine rl_val gw_none (ov_lss rfl rfl) rfl ?_
      refine rl_val gw_none (ov_move rfl) rfl ?_
      refine rl_split (t := 55) rfl (fun g1 => ?_) (fun g1 => ?_)
      ·
        exfalso; first | (simp at g1; omega) | (simp at g1; done) | (simp_all; done)
      ·
        have g1' := g1
        try simp only [Bool.not_eq_true', Bool.not_eq_false', Bool.not_not, decide_eq_true_eq, decide_eq_false_iff_not, beq_iff_eq, beq_eq_false_iff_ne, bne_iff_ne, bne_eq_false_iff_eq, Bool.and_eq_true, Bool.or_eq_true, Bool.and_eq_false_iff, Bool.or_eq_false_iff, inB] at g1'
        refine rl_val (gw_some rfl rfl g1) (ov_move rfl) rfl ?_
        refine rl_val (gw_some rfl rfl g1) (ov_move rfl) rfl ?_
        refine rl_callv (gw_some rfl rfl g1) goes8 rfl (fun w1 hp => eqIntS_c _ _ _ _ (hp.slsr 1 rfl hsG0) (hp.slsr 3 rfl hsW0)) rfl ?_
        refine rl_val (gw_some rfl rfl g1) (ov_not rfl) rfl ?_
        refine rl_val gw_none (ov_pick_f rfl g1 rfl) rfl ?_
        refine rl_val gw_none (ov_move rfl) rfl ?_
        refine rl_val (gw_some rfl rfl rfl) (ov_move rfl) rfl ?_
        refine rl_val (gw_some rfl rfl rfl) (ov_move rfl) rfl ?_
        refine rl_val (gw_some rfl rfl rfl) (ov_neb Try.underlying4 rfl rfl) rfl ?_
        refine rl_val gw_none (ov_pick_f rfl rfl rfl) rfl ?_
        refine rl_nil ?_
        refine at_then ?_
        first | refine ct_dec rfl (fun h3 => ?_) (fun h3 => ?_) | refine ct_ndec rfl (fun h3 => ?_) (fun h3 => ?_) | refine ct_eq rfl (fun h3 => ?_) (fun h3 => ?_) | refine ct_ne rfl (fun h3 => ?_) (fun h3 => ?_) | refine ct_not rfl (fun h3 => ?_) (fun h3 => ?_) | refine ct_cond rfl (fun h3 => ?_) (fun h3 => ?_)
        ·
          exfalso; first | omega | exact absurd rfl h3 | (simp at h3; done) | (simp_all; done)
        ·
          refine ct_skip ?_
          refine at_then ?_
          refine ct_seq ?_
          refine ct_reg ?_
          refine rl_val gw_none (ov_assign rfl) rfl ?_
          refine rl_nil ?_
          refine at_then ?_
          refine ct_seq ?_
          refine ct_reg ?_
          refine rl_val gw_none (ov_move rfl) rfl ?_
          refine rl_val gw_none (ov_move rfl) rfl ?_
          refine rl_callwo [_] goes11 rfl rfl (fun w1 hp => markIntS_o  _ hsG0 _ (hp.atO 1 rfl) (by omega)) rfl ?_
          refine rl_val gw_none (ov_assign rfl) rfl ?_
          refine rl_nil ?_
          refine at_then ?_
          refine ct_seq ?_
          refine ct_reg ?_
          refine rl_val gw_none (ov_assign rfl) rfl ?_
          refine rl_nil ?_
          refine at_then ?_
          refine ct_seq ?_
          refine ct_reg ?_
          refine rl_val gw_none (ov_move rfl) rfl ?_
          refine rl_val gw_none (ov_move rfl) rfl ?_
          refine rl_callv gw_none goes12 rfl (fun w1 hp => heldIntS_c  _ _ _ _ (hp.slsr 1 rfl (hsG0.marked _)) (by omega)) rfl ?_
          refine rl_val gw_none (ov_assign rfl) rfl ?_
          refine rl_nil ?_
          refine at_then ?_
          refine ct_seq ?_
          refine ct_seq ?_
          refine ct_reg ?_
          refine rl_val gw_none (ov_move rfl) rfl ?_
          refine rl_val gw_none (ov_lss rfl rfl) rfl ?_
          refine rl_nil ?_
          refine at_then ?_
          first | refine ct_dec rfl (fun h4 => ?_) (fun h4 => ?_) | refine ct_ndec rfl (fun h4 => ?_) (fun h4 => ?_) | refine ct_eq rfl (fun h4 => ?_) (fun h4 => ?_) | refine ct_ne rfl (fun h4 => ?_) (fun h4 => ?_) | refine ct_not rfl (fun h4 => ?_) (fun h4 => ?_) | refine ct_cond rfl (fun h4 => ?_) (fun h4 => ?_)
          ·
            exfalso; first | omega | exact absurd rfl h4 | (simp at h4; done) | (simp_all; done)
          ·
            refine ct_skip ?_
            refine at_then ?_
            refine ct_seq ?_
            refine ct_seq ?_
            refine ct_reg ?_
            refine rl_val gw_none (ov_move rfl) rfl ?_
            refine rl_val gw_none (ov_move rfl) rfl ?_
            refine rl_val gw_none (ov_neq rfl rfl) rfl ?_
            refine rl_nil ?_
            refine at_then ?_
            first | refine ct_dec rfl (fun h5 => ?_) (fun h5 => ?_) | refine ct_ndec rfl (fun h5 => ?_) (fun h5 => ?_) | refine ct_eq rfl (fun h5 => ?_) (fun h5 => ?_) | refine ct_ne rfl (fun h5 => ?_) (fun h5 => ?_) | refine ct_not rfl (fun h5 => ?_) (fun h5 => ?_) | refine ct_cond rfl (fun h5 => ?_) (fun h5 => ?_)
            ·
              exfalso; first | omega | exact absurd rfl h5 | (simp at h5; done) | (simp_all; done)
            ·
              refine ct_skip ?_
              refine at_then ?_
              refine ct_seq ?_
              refine ct_reg ?_
              first | refine rl_val gw_none (ov_loadall 5 ag24 rfl rfl rfl) rfl ?_ | refine rl_val gw_none (ov_loadp 5 ag24 rfl rfl (vs := [_, _, _]) rfl rfl) rfl ?_ | refine rl_val gw_none (ov_loada 5 ag24 rfl rfl rfl (by assumption)) rfl ?_
              refine rl_calle (ι := Nat) (fun q => .agg (List.toArray (α := Value) [.int .i64 u, .int .i64 l, .slice (some ⟨q, 0, none⟩) xs.length xs.length])) (fun q => [(some q, _, flat encIntA2 xs)]) (fun _ => True) goes6 rfl (fun w1 hp => toFrame_c u l xs _ _ zu zl hGxs (hsxs.ext hp.ext0) hbxs) rfl (fun qhxs _ => ?_)
              refine rl_val gw_none (ov_move rfl) rfl ?_
              refine rl_callsl (ι := Nat × List Value) (fun i bo => .tuple #[(sv bo ((rchL u l xs mv).length) i.1), .bool (rchB u l xs mv)]) (fun i => ints (rchL u l xs mv) ++ i.2) (fun i bo => Sl 1 bo ((rchL u l xs mv).length) i.1 (ints (rchL u l xs mv)) i.2) goes7 rfl (fun w1 hp => iReachedIn_c u l xs mv _ _ zu zl hGxs (hp.sr1 0 rfl (flat_length encIntA2_len _) hmxs) zmv) rfl (fun iH0 boH0 hsH0 => ?_)
              refine rl_val gw_none (ov_move rfl) rfl ?_
              refine rl_val gw_none (ov_extract rfl rfl) rfl ?_
              refine rl_val gw_none (ov_extract rfl rfl) rfl ?_
              refine rl_val gw_none (ov_assign rfl) rfl ?_
              refine rl_val gw_none (ov_assign rfl) rfl ?_
              refine rl_nil ?_
              refine at_then ?_
              refine ct_seq ?_
              refine ct_seq ?_
              refine ct_reg ?_
              refine rl_val gw_none (ov_move rfl) rfl ?_
              refine rl_val gw_none (ov_move rfl) rfl ?_
              refine rl_callv gw_none goes8 rfl (fun w1 hp => eqIntS_c _ _ _ _ (hp.slsr 0 rfl hsH0) (hp.slsr 5 rfl hsW0)) rfl ?_
              refine rl_val gw_none (ov_not rfl) rfl ?_
              refine rl_val gw_none (ov_move rfl) rfl ?_
              refine rl_val (gw_some rfl rfl rfl) (ov_move rfl) rfl ?_
              refine rl_val (gw_some rfl rfl rfl) (ov_move rfl) rfl ?_
              refine rl_val (gw_some rfl rfl rfl) (ov_neb Try.underlying4 rfl rfl) rfl ?_
              refine rl_val gw_none (ov_pick_f rfl rfl rfl) rfl ?_
              refine rl_nil ?_
              refine at_then ?_
              first | refine ct_dec rfl (fun h6 => ?_) (fun h6 => ?_) | refine ct_ndec rfl (fun h6 => ?_) (fun h6 => ?_) | refine ct_eq rfl (fun h6 => ?_) (fun h6 => ?_) | refine ct_ne rfl (fun h6 => ?_) (fun h6 => ?_) | refine ct_not rfl (fun h6 => ?_) (fun h6 => ?_) | refine ct_cond rfl (fun h6 => ?_) (fun h6 => ?_)
              ·
                exfalso; first | omega | exact absurd rfl h6 | (simp at h6; done) | (simp_all; done)
              ·
                refine ct_skip ?_
                refine at_then ?_
                refine ct_seq ?_
                refine ct_reg ?_
                refine rl_val gw_none (ov_assign rfl) rfl ?_
                refine rl_nil ?_
                refine at_then ?_
                refine ct_seq ?_
                refine ct_reg ?_
                refine rl_val gw_none (ov_move rfl) rfl ?_
                refine rl_val gw_none (ov_move rfl) rfl ?_
                refine rl_callv gw_none goes12 rfl (fun w1 hp => heldIntS_c  _ _ _ _ (hp.slsr 3 rfl (hsG0.marked _)) (by omega)) rfl ?_
                refine rl_val gw_none (ov_assign rfl) rfl ?_
                refine rl_nil ?_
                refine at_then ?_
                refine ct_seq ?_
                refine ct_seq ?_
                refine ct_reg ?_
                refine rl_val gw_none (ov_move rfl) rfl ?_
                refine rl_val gw_none (ov_lss rfl rfl) rfl ?_
                refine rl_nil ?_
                refine at_then ?_
                first | refine ct_dec rfl (fun h7 => ?_) (fun h7 => ?_) | refine ct_ndec rfl (fun h7 => ?_) (fun h7 => ?_) | refine ct_eq rfl (fun h7 => ?_) (fun h7 => ?_) | refine ct_ne rfl (fun h7 => ?_) (fun h7 => ?_) | refine ct_not rfl (fun h7 => ?_) (fun h7 => ?_) | refine ct_cond rfl (fun h7 => ?_) (fun h7 => ?_)
                ·
                  exfalso; first | omega | exact absurd rfl h7 | (simp at h7; done) | (simp_all; done)
                ·
                  refine ct_skip ?_
                  refine at_then ?_
                  refine ct_seq ?_
                  refine ct_seq ?_
                  refine ct_reg ?_
                  refine rl_val gw_none (ov_move rfl) rfl ?_
                  refine rl_val gw_none (ov_move rfl) rfl ?_
                  refine rl_val gw_none (ov_neq rfl rfl) rfl ?_
                  refine rl_nil ?_
                  refine at_then ?_
                  first | refine ct_dec rfl (fun h8 => ?_) (fun h8 => ?_) | refine ct_ndec rfl (fun h8 => ?_) (fun h8 => ?_) | refine ct_eq rfl (fun h8 => ?_) (fun h8 => ?_) | refine ct_ne rfl (fun h8 => ?_) (fun h8 => ?_) | refine ct_not rfl (fun h8 => ?_) (fun h8 => ?_) | refine ct_cond rfl (fun h8 => ?_) (fun h8 => ?_)
                  ·
                    exfalso; first | omega | exact absurd rfl h8 | (simp at h8; done) | (simp_all; done)
                  ·
                    refine ct_skip ?_
                    refine at_then ?_
                    refine ct_seq ?_
                    refine ct_reg ?_
                    refine rl_val gw_none (ov_assign rfl) rfl ?_
                    refine rl_nil ?_
                    refine at_then ?_
                    refine ct_ret ?_
                    refine at_ret1 Try.results3 (ro_tmp rfl) (fun w1 hp => ?_)
                    exact ⟨rfl, hp.ext0⟩
end Go.Proofs.Ytjhlhkglpecdbaa
