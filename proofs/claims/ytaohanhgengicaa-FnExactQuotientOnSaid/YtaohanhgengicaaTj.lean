import Derived.Test.YtaohanhgengicaaTh
import Derived.Test.YtaohanhgengicaaTi
import Derived.KernelRfl
set_option linter.unusedVariables false
set_option linter.unusedSimpArgs false
namespace Go.Proofs.Ytaohanhgengicaa
open Go Go.RowKit K
theorem law_HowOften (u : Int) (l : Int) (xs : List IntA2) (n : Int) (vxs : Value) (w : World) (zu : In64 u) (zl : In64 l) (hGxs : ∀ y ∈ xs, GIntA2 y) (hsxs : SR w 2 vxs xs.length (flat encIntA2 xs)) (zn : In64 n) : Calls Try.prog 14 ([.agg (List.toArray (α := Value) [.int .i64 u, .int .i64 l, vxs]), .int .i64 n]).toArray w (fun e w' => e = .returned (.bool true) ∧ Ext w w') := by
  have hlenxs := hsxs.len_le
  refine calls_ct Try.func14 Try.ntmps14 rfl rfl ?_
  refine ct_seq ?_
  refine ct_reg ?_
  refine rl_box rfl rfl (fun N1 => ?_)
  refine rl_val gw_none (ov_assign rfl) rfl ?_
  refine rl_nil ?_
  refine at_then ?_
  refine ct_seq ?_
  refine ct_reg ?_
  refine rl_val gw_none (ov_assign rfl) rfl ?_
  refine rl_nil ?_
  refine at_then ?_
  refine ct_seq ?_
  refine ct_reg ?_
  first | refine rl_val gw_none (ov_loadall 0 ag30 rfl rfl rfl) rfl ?_ | refine rl_val gw_none (ov_loada 0 ag30 rfl rfl rfl (by assumption)) rfl ?_
  refine rl_val gw_none (ov_move rfl) rfl ?_
  refine rl_callx (ι := Int) (fun r => .int .i64 r) (fun r => r < 0 ∨ (0 ≤ r ∧ r ≤ 1048576 - xs.length)) gw_none goes20 rfl (fun w1 hp => szFrame_c 1048576 u l xs _ _ zu zl hGxs (hsxs.ext hp.ext0) (by omega)) rfl (fun rxs hrxs => ?_)
  refine rl_val gw_none (ov_assign rfl) rfl ?_
  refine rl_nil ?_
  refine at_then ?_
  refine ct_seq ?_
  refine ct_seq ?_
  refine ct_reg ?_
  refine rl_val gw_none (ov_move rfl) rfl ?_
  refine rl_val gw_none (ov_lss rfl rfl) rfl ?_
  refine rl_nil ?_
  refine at_then ?_
  first | refine ct_dec rfl (fun h1 => ?_) (fun h1 => ?_) | refine ct_ndec rfl (fun h1 => ?_) (fun h1 => ?_) | refine ct_eq rfl (fun h1 => ?_) (fun h1 => ?_) | refine ct_ne rfl (fun h1 => ?_) (fun h1 => ?_) | refine ct_not rfl (fun h1 => ?_) (fun h1 => ?_) | refine ct_cond rfl (fun h1 => ?_) (fun h1 => ?_)
  ·
    refine ct_seq ?_
    refine ct_reg ?_
    refine rl_val gw_none (ov_assign rfl) rfl ?_
    refine rl_nil ?_
    refine at_then ?_
    refine ct_ret ?_
    refine at_then_ret ?_
    refine at_ret1 Try.results14 (ro_tmp rfl) (fun w1 hp => ?_)
    exact ⟨rfl, hp.ext0⟩
  ·
    have hbxs : xs.length ≤ 1048576 := by omega
    have hmxs : xs.length ≤ maxLen := by unfold maxLen; omega
    refine ct_skip ?_
    refine at_then ?_
    refine ct_seq ?_
    refine ct_reg ?_
    first | refine rl_val gw_none (ov_loadall 0 ag30 rfl rfl rfl) rfl ?_ | refine rl_val gw_none (ov_loada 0 ag30 rfl rfl rfl (by assumption)) rfl ?_
    refine rl_calle (ι := Nat) (fun q => .agg (List.toArray (α := Value) [.int .i64 u, .int .i64 l, .slice (some ⟨q, 0, none⟩) xs.length xs.length])) (fun q => [(some q, _, flat encIntA2 xs)]) (fun _ => True) goes22 rfl (fun w1 hp => toFrame_c u l xs _ _ zu zl hGxs (hsxs.ext hp.ext0) hbxs) rfl (fun qwxs _ => ?_)
    refine rl_val gw_none (ov_move rfl) rfl ?_
    refine rl_callv gw_none goes50 rfl (fun w1 hp => sHowOften_c u l xs n _ _ zu zl hGxs (hp.sr1 0 rfl (flat_length encIntA2_len _) hmxs) zn) rfl ?_
    refine rl_val gw_none (ov_move rfl) rfl ?_
    refine rl_val gw_none (ov_extract rfl rfl) rfl ?_
    refine rl_val gw_none (ov_extract rfl rfl) rfl ?_
    refine rl_val gw_none (ov_assign rfl) rfl ?_
    refine rl_val gw_none (ov_assign rfl) rfl ?_
    refine rl_nil ?_
    refine at_then ?_
    refine ct_seq ?_
    refine ct_reg ?_
    first | refine rl_val gw_none (ov_loadall 1 ag30 rfl rfl rfl) rfl ?_ | refine rl_val gw_none (ov_loada 1 ag30 rfl rfl rfl (by assumption)) rfl ?_
    refine rl_calle (ι := Nat) (fun q => .agg (List.toArray (α := Value) [.int .i64 u, .int .i64 l, .slice (some ⟨q, 0, none⟩) xs.length xs.length])) (fun q => [(some q, _, flat encIntA2 xs)]) (fun _ => True) goes22 rfl (fun w1 hp => toFrame_c u l xs _ _ zu zl hGxs (hsxs.ext hp.ext0) hbxs) rfl (fun qxxs _ => ?_)
    refine rl_alloc ze24 rfl (fun N2 => ?_)
    refine rl_store [] sz24 rfl rfl rfl rfl rfl (Nat.le_of_ble_eq_true rfl) ?_
    refine rl_nil ?_
    refine at_then ?_
    refine ct_seq ?_
    refine ct_reg ?_
    first | refine rl_val gw_none (ov_loadall 0 ag24 rfl rfl rfl) rfl ?_ | refine rl_val gw_none (ov_loada 0 ag24 rfl rfl rfl (by assumption)) rfl ?_
    refine rl_val gw_none (ov_move rfl) rfl ?_
    refine rl_callv gw_none goes51 rfl (fun w1 hp => iHowOften_c u l xs n _ _ zu zl hGxs (hp.sr1 1 rfl (flat_length encIntA2_len _) hmxs) zn) rfl ?_
    refine rl_val gw_none (ov_move rfl) rfl ?_
    refine rl_val gw_none (ov_extract rfl rfl) rfl ?_
    refine rl_val gw_none (ov_extract rfl rfl) rfl ?_
    refine rl_val gw_none (ov_assign rfl) rfl ?_
    refine rl_val gw_none (ov_assign rfl) rfl ?_
    refine rl_nil ?_
    refine at_then ?_
    refine ct_seq ?_
    refine ct_seq ?_
    refine ct_reg ?_
    refine rl_val gw_none (ov_move rfl) rfl ?_
    refine rl_val gw_none (ov_move rfl) rfl ?_
    refine rl_val gw_none (ov_neq rfl rfl) rfl ?_
    refine rl_val gw_none (ov_move rfl) rfl ?_
    refine rl_split (t := 34) rfl (fun g1 => ?_) (fun g1 => ?_)
    ·
      exfalso; first | (simp at g1; omega) | (simp at g1; done) | (simp_all; done)
    ·
      have g1' := g1
      try simp only [Bool.not_eq_true', Bool.not_eq_false', Bool.not_not, decide_eq_true_eq, decide_eq_false_iff_not, beq_iff_eq, beq_eq_false_iff_ne, bne_iff_ne, bne_eq_false_iff_eq, Bool.and_eq_true, Bool.or_eq_true, Bool.and_eq_false_iff, Bool.or_eq_false_iff, inB] at g1'
      refine rl_val (gw_some rfl rfl g1) (ov_move rfl) rfl ?_
      refine rl_val (gw_some rfl rfl g1) (ov_move rfl) rfl ?_
      refine rl_val (gw_some rfl rfl g1) (ov_neb Try.underlying4 rfl rfl) rfl ?_
      refine rl_val gw_none (ov_pick_f rfl g1 rfl) rfl ?_
      refine rl_nil ?_
      refine at_then ?_
      first | refine ct_dec rfl (fun h2 => ?_) (fun h2 => ?_) | refine ct_ndec rfl (fun h2 => ?_) (fun h2 => ?_) | refine ct_eq rfl (fun h2 => ?_) (fun h2 => ?_) | refine ct_ne rfl (fun h2 => ?_) (fun h2 => ?_) | refine ct_not rfl (fun h2 => ?_) (fun h2 => ?_) | refine ct_cond rfl (fun h2 => ?_) (fun h2 => ?_)
      ·
        exfalso; first | omega | exact absurd rfl h2 | (simp at h2; done) | (simp_all; done)
      ·
        refine ct_skip ?_
        refine at_then ?_
        refine ct_seq ?_
        refine ct_seq ?_
        refine ct_dre 3 [0, 1, 2, 3, 4] [2] (by kernel_rfl) (by kernel_rfl) ?_
        first | refine qe_val rfl gw_none (ov_loadall 0 ag24 rfl rfl rfl) rfl ?_ | refine qe_val rfl gw_none (ov_loada 0 ag24 rfl rfl rfl (by assumption)) rfl ?_
        first | refine qe_val rfl gw_none (ov_loadall 3 ag30 rfl rfl rfl) rfl ?_ | refine qe_val rfl gw_none (ov_loada 3 ag30 rfl rfl rfl (by assumption)) rfl ?_
        refine qe_calle (ι := Nat) (fun q => .agg (List.toArray (α := Value) [.int .i64 u, .int .i64 l, .slice (some ⟨q, 0, none⟩) xs.length xs.length])) (fun q => [(some q, _, flat encIntA2 xs)]) (fun _ => True) rfl goes22 rfl (fun w1 hp => toFrame_c u l xs _ _ zu zl hGxs (hsxs.ext hp.ext0) hbxs) rfl (fun qcxs _ => ?_)
        refine qe_nil ?_
        refine rl_callv gw_none goes17 rfl (fun w1 hp => eqFrame_c u l xs _ _ _  (hp.sr1 2 rfl (flat_length encIntA2_len _) hmxs) (hp.sr1 0 rfl (flat_length encIntA2_len _) hmxs)) rfl ?_
        refine rl_val gw_none (ov_not rfl) rfl ?_
        refine rl_nil ?_
        refine at_then ?_
        refine ct_false rfl rfl ?_
        refine ct_skip ?_
        refine at_then ?_
        refine ct_seq ?_
        refine ct_reg ?_
        refine rl_val gw_none (ov_assign rfl) rfl ?_
        refine rl_nil ?_
        refine at_then ?_
        refine ct_ret ?_
        refine at_ret1 Try.results14 (ro_tmp rfl) (fun w1 hp => ?_)
        exact ⟨rfl, hp.ext0⟩

theorem law_CountDown (u : Int) (l : Int) (xs : List IntA2) (n : Int) (vxs : Value) (w : World) (zu : In64 u) (zl : In64 l) (hGxs : ∀ y ∈ xs, GIntA2 y) (hsxs : SR w 2 vxs xs.length (flat encIntA2 xs)) (zn : In64 n) : Calls Try.prog 9 ([.agg (List.toArray (α := Value) [.int .i64 u, .int .i64 l, vxs]), .int .i64 n]).toArray w (fun e w' => e = .returned (.bool true) ∧ Ext w w') := by
  have hlenxs := hsxs.len_le
  have hrl := cdR_len u l xs n
  refine calls_ct Try.func9 Try.ntmps9 rfl rfl ?_
  refine ct_seq ?_
  refine ct_reg ?_
  refine rl_box rfl rfl (fun N1 => ?_)
  refine rl_val gw_none (ov_assign rfl) rfl ?_
  refine rl_nil ?_
  refine at_then ?_
  refine ct_seq ?_
  refine ct_reg ?_
  refine rl_val gw_none (ov_assign rfl) rfl ?_
  refine rl_nil ?_
  refine at_then ?_
  refine ct_seq ?_
  refine ct_reg ?_
  first | refine rl_val gw_none (ov_loadall 0 ag30 rfl rfl rfl) rfl ?_ | refine rl_val gw_none (ov_loada 0 ag30 rfl rfl rfl (by assumption)) rfl ?_
  refine rl_val gw_none (ov_move rfl) rfl ?_
  refine rl_callx (ι := Int) (fun r => .int .i64 r) (fun r => r < 0 ∨ (0 ≤ r ∧ r ≤ 1048576 - xs.length)) gw_none goes20 rfl (fun w1 hp => szFrame_c 1048576 u l xs _ _ zu zl hGxs (hsxs.ext hp.ext0) (by omega)) rfl (fun rxs hrxs => ?_)
  refine rl_val gw_none (ov_assign rfl) rfl ?_
  refine rl_nil ?_
  refine at_then ?_
  refine ct_seq ?_
  refine ct_seq ?_
  refine ct_reg ?_
  refine rl_val gw_none (ov_move rfl) rfl ?_
  refine rl_val gw_none (ov_lss rfl rfl) rfl ?_
  refine rl_nil ?_
  refine at_then ?_
  first | refine ct_dec rfl (fun h1 => ?_) (fun h1 => ?_) | refine ct_ndec rfl (fun h1 => ?_) (fun h1 => ?_) | refine ct_eq rfl (fun h1 => ?_) (fun h1 => ?_) | refine ct_ne rfl (fun h1 => ?_) (fun h1 => ?_) | refine ct_not rfl (fun h1 => ?_) (fun h1 => ?_) | refine ct_cond rfl (fun h1 => ?_) (fun h1 => ?_)
  ·
    refine ct_seq ?_
    refine ct_reg ?_
    refine rl_val gw_none (ov_assign rfl) rfl ?_
    refine rl_nil ?_
    refine at_then ?_
    refine ct_ret ?_
    refine at_then_ret ?_
    refine at_ret1 Try.results9 (ro_tmp rfl) (fun w1 hp => ?_)
    exact ⟨rfl, hp.ext0⟩
  ·
    have hbxs : xs.length ≤ 1048576 := by omega
    have hmxs : xs.length ≤ maxLen := by unfold maxLen; omega
    refine ct_skip ?_
    refine at_then ?_
    refine ct_seq ?_
    refine ct_reg ?_
    first | refine rl_val gw_none (ov_loadall 0 ag30 rfl rfl rfl) rfl ?_ | refine rl_val gw_none (ov_loada 0 ag30 rfl rfl rfl (by assumption)) rfl ?_
    refine rl_calle (ι := Nat) (fun q => .agg (List.toArray (α := Value) [.int .i64 u, .int .i64 l, .slice (some ⟨q, 0, none⟩) xs.length xs.length])) (fun q => [(some q, _, flat encIntA2 xs)]) (fun _ => True) goes22 rfl (fun w1 hp => toFrame_c u l xs _ _ zu zl hGxs (hsxs.ext hp.ext0) hbxs) rfl (fun qwxs _ => ?_)
    refine rl_val gw_none (ov_move rfl) rfl ?_
    refine rl_callsl (ι := Nat × List Value) (fun i bo => .tuple #[(sv bo ((cdR u l xs n).length) i.1), .bool (cdB u l xs n)]) (fun i => ints (cdR u l xs n) ++ i.2) (fun i bo => Sl 1 bo ((cdR u l xs n).length) i.1 (ints (cdR u l xs n)) i.2) goes37 rfl (fun w1 hp => sCountDown_c u l xs n _ _ zu zl hGxs (hp.sr1 0 rfl (flat_length encIntA2_len _) hmxs) zn) rfl (fun iW0 boW0 hsW0 => ?_)
    refine rl_val gw_none (ov_move rfl) rfl ?_
    refine rl_val gw_none (ov_extract rfl rfl) rfl ?_
    refine rl_val gw_none (ov_extract rfl rfl) rfl ?_
    refine rl_val gw_none (ov_assign rfl) rfl ?_
    refine rl_val gw_none (ov_assign rfl) rfl ?_
    refine rl_nil ?_
    refine at_then ?_
    refine ct_seq ?_
    refine ct_reg ?_
    first | refine rl_val gw_none (ov_loadall 2 ag30 rfl rfl rfl) rfl ?_ | refine rl_val gw_none (ov_loada 2 ag30 rfl rfl rfl (by assumption)) rfl ?_
    refine rl_calle (ι := Nat) (fun q => .agg (List.toArray (α := Value) [.int .i64 u, .int .i64 l, .slice (some ⟨q, 0, none⟩) xs.length xs.length])) (fun q => [(some q, _, flat encIntA2 xs)]) (fun _ => True) goes22 rfl (fun w1 hp => toFrame_c u l xs _ _ zu zl hGxs (hsxs.ext hp.ext0) hbxs) rfl (fun qxxs _ => ?_)
    refine rl_alloc ze24 rfl (fun N2 => ?_)
    refine rl_store [] sz24 rfl rfl rfl rfl rfl (Nat.le_of_ble_eq_true rfl) ?_
    refine rl_nil ?_
    refine at_then ?_
    refine ct_seq ?_
    refine ct_reg ?_
    first | refine rl_val gw_none (ov_loadall 0 ag24 rfl rfl rfl) rfl ?_ | refine rl_val gw_none (ov_loada 0 ag24 rfl rfl rfl (by assumption)) rfl ?_
    refine rl_val gw_none (ov_move rfl) rfl ?_
    refine rl_callsl (ι := Nat × List Value) (fun i bo => .tuple #[(sv bo ((cdR u l xs n).length) i.1), .bool (cdB u l xs n)]) (fun i => ints (cdR u l xs n) ++ i.2) (fun i bo => Sl 1 bo ((cdR u l xs n).length) i.1 (ints (cdR u l xs n)) i.2) goes38 rfl (fun w1 hp => iCountDown_c u l xs n _ _ zu zl hGxs (hp.sr1 1 rfl (flat_length encIntA2_len _) hmxs) zn) rfl (fun iG0 boG0 hsG0 => ?_)
    refine rl_val gw_none (ov_move rfl) rfl ?_
    refine rl_val gw_none (ov_extract rfl rfl) rfl ?_
    refine rl_val gw_none (ov_extract rfl rfl) rfl ?_
    refine rl_val gw_none (ov_assign rfl) rfl ?_
    refine rl_val gw_none (ov_assign rfl) rfl ?_
    refine rl_nil ?_
    refine at_then ?_
    refine ct_seq ?_
    refine ct_seq ?_
    refine ct_reg ?_
    refine rl_val gw_none (ov_move rfl) rfl ?_
    refine rl_val gw_none (ov_move rfl) rfl ?_
    refine rl_callv gw_none goes39 rfl (fun w1 hp => eqIntS_c _ _ _ _ (hp.slsr 0 rfl hsG0) (hp.slsr 3 rfl hsW0)) rfl ?_
    refine rl_val gw_none (ov_not rfl) rfl ?_
    refine rl_val gw_none (ov_move rfl) rfl ?_
    refine rl_val (gw_some rfl rfl rfl) (ov_move rfl) rfl ?_
    refine rl_val (gw_some rfl rfl rfl) (ov_move rfl) rfl ?_
    refine rl_val (gw_some rfl rfl rfl) (ov_neb Try.underlying4 rfl rfl) rfl ?_
    refine rl_val gw_none (ov_pick_f rfl rfl rfl) rfl ?_
    refine rl_nil ?_
    refine at_then ?_
    first | refine ct_dec rfl (fun h2 => ?_) (fun h2 => ?_) | refine ct_ndec rfl (fun h2 => ?_) (fun h2 => ?_) | refine ct_eq rfl (fun h2 => ?_) (fun h2 => ?_) | refine ct_ne rfl (fun h2 => ?_) (fun h2 => ?_) | refine ct_not rfl (fun h2 => ?_) (fun h2 => ?_) | refine ct_cond rfl (fun h2 => ?_) (fun h2 => ?_)
    ·
      exfalso; first | omega | exact absurd rfl h2 | (simp at h2; done) | (simp_all; done)
    ·
      refine ct_skip ?_
      refine at_then ?_
      refine ct_seq ?_
      refine ct_seq ?_
      refine ct_dre 3 [0, 1, 2, 3, 4] [2] (by kernel_rfl) (by kernel_rfl) ?_
      first | refine qe_val rfl gw_none (ov_loadall 1 ag24 rfl rfl rfl) rfl ?_ | refine qe_val rfl gw_none (ov_loada 1 ag24 rfl rfl rfl (by assumption)) rfl ?_
      first | refine qe_val rfl gw_none (ov_loadall 5 ag30 rfl rfl rfl) rfl ?_ | refine qe_val rfl gw_none (ov_loada 5 ag30 rfl rfl rfl (by assumption)) rfl ?_
      refine qe_calle (ι := Nat) (fun q => .agg (List.toArray (α := Value) [.int .i64 u, .int .i64 l, .slice (some ⟨q, 0, none⟩) xs.length xs.length])) (fun q => [(some q, _, flat encIntA2 xs)]) (fun _ => True) rfl goes22 rfl (fun w1 hp => toFrame_c u l xs _ _ zu zl hGxs (hsxs.ext hp.ext0) hbxs) rfl (fun qcxs _ => ?_)
      refine qe_nil ?_
      refine rl_callv gw_none goes17 rfl (fun w1 hp => eqFrame_c u l xs _ _ _  (hp.sr1 3 rfl (flat_length encIntA2_len _) hmxs) (hp.sr1 0 rfl (flat_length encIntA2_len _) hmxs)) rfl ?_
      refine rl_val gw_none (ov_not rfl) rfl ?_
      refine rl_nil ?_
      refine at_then ?_
      refine ct_false rfl rfl ?_
      refine ct_skip ?_
      refine at_then ?_
      refine ct_seq ?_
      refine ct_reg ?_
      refine rl_val gw_none (ov_assign rfl) rfl ?_
      refine rl_nil ?_
      refine at_then ?_
      refine ct_seq ?_
      refine ct_reg ?_
      first | refine rl_val gw_none (ov_loadall 2 ag24 rfl rfl rfl) rfl ?_ | refine rl_val gw_none (ov_loada 2 ag24 rfl rfl rfl (by assumption)) rfl ?_
      refine rl_val gw_none (ov_move rfl) rfl ?_
      refine rl_callm [_, _, _] goes18 rfl rfl (fun w1 hp => markFrame_m _ _ _ _ _ _ _ _ (hp.at (i := 3) rfl) (flat_length encIntA2_len _) (by omega)) rfl ?_
      refine rl_val gw_none (ov_assign rfl) rfl ?_
      refine rl_nil ?_
      refine at_then ?_
      refine ct_seq ?_
      refine ct_seq ?_
      refine ct_reg ?_
      refine rl_val gw_none (ov_move rfl) rfl ?_
      refine rl_val gw_none (ov_lss rfl rfl) rfl ?_
      refine rl_val gw_none (ov_move rfl) rfl ?_
      refine rl_split (t := 55) rfl (fun g1 => ?_) (fun g1 => ?_)
      ·
        exfalso; first | (simp at g1; omega) | (simp at g1; done) | (simp_all; done)
      ·
        have g1' := g1
        try simp only [Bool.not_eq_true', Bool.not_eq_false', Bool.not_not, decide_eq_true_eq, decide_eq_false_iff_not, beq_iff_eq, beq_eq_false_iff_ne, bne_iff_ne, bne_eq_false_iff_eq, Bool.and_eq_true, Bool.or_eq_true, Bool.and_eq_false_iff, Bool.or_eq_false_iff, inB] at g1'
        refine rl_val (gw_some rfl rfl g1) (ov_move rfl) rfl ?_
        refine rl_val (gw_some rfl rfl g1) (ov_move rfl) rfl ?_
        refine rl_callv (gw_some rfl rfl g1) goes39 rfl (fun w1 hp => eqIntS_c _ _ _ _ (hp.slsr 1 rfl hsG0) (hp.slsr 3 rfl hsW0)) rfl ?_
        refine rl_val (gw_some rfl rfl g1) (ov_not rfl) rfl ?_
        refine rl_val gw_none (ov_pick_f rfl g1 rfl) rfl ?_
        refine rl_val gw_none (ov_move rfl) rfl ?_
        refine rl_val (gw_some rfl rfl rfl) (ov_move rfl) rfl ?_
        refine rl_val (gw_some rfl rfl rfl) (ov_move rfl) rfl ?_
        refine rl_val (gw_some rfl rfl rfl) (ov_neb Try.underlying4 rfl rfl) rfl ?_
        refine rl_val gw_none (ov_pick_f rfl rfl rfl) rfl ?_
        refine rl_nil ?_
        refine at_then ?_
        first | refine ct_dec rfl (fun h3 => ?_) (fun h3 => ?_) | refine ct_ndec rfl (fun h3 => ?_) (fun h3 => ?_) | refine ct_eq rfl (fun h3 => ?_) (fun h3 => ?_) | refine ct_ne rfl (fun h3 => ?_) (fun h3 => ?_) | refine ct_not rfl (fun h3 => ?_) (fun h3 => ?_) | refine ct_cond rfl (fun h3 => ?_) (fun h3 => ?_)
        ·
          exfalso; first | omega | exact absurd rfl h3 | (simp at h3; done) | (simp_all; done)
        ·
          refine ct_skip ?_
          refine at_then ?_
          refine ct_seq ?_
          refine ct_reg ?_
          refine rl_val gw_none (ov_assign rfl) rfl ?_
          refine rl_nil ?_
          refine at_then ?_
          refine ct_seq ?_
          refine ct_reg ?_
          refine rl_val gw_none (ov_move rfl) rfl ?_
          refine rl_val gw_none (ov_move rfl) rfl ?_
          refine rl_callwo [_] goes40 rfl rfl (fun w1 hp => markIntS_o  _ hsG0 _ (hp.atO 1 rfl) (by omega)) rfl ?_
          refine rl_val gw_none (ov_assign rfl) rfl ?_
          refine rl_nil ?_
          refine at_then ?_
          refine ct_seq ?_
          refine ct_reg ?_
          refine rl_val gw_none (ov_assign rfl) rfl ?_
          refine rl_nil ?_
          refine at_then ?_
          refine ct_seq ?_
          refine ct_reg ?_
          refine rl_val gw_none (ov_move rfl) rfl ?_
          refine rl_val gw_none (ov_move rfl) rfl ?_
          refine rl_callv gw_none goes41 rfl (fun w1 hp => heldIntS_c  _ _ _ _ (hp.slsr 1 rfl (hsG0.marked _)) (by omega)) rfl ?_
          refine rl_val gw_none (ov_assign rfl) rfl ?_
          refine rl_nil ?_
          refine at_then ?_
          refine ct_seq ?_
          refine ct_seq ?_
          refine ct_reg ?_
          refine rl_val gw_none (ov_move rfl) rfl ?_
          refine rl_val gw_none (ov_lss rfl rfl) rfl ?_
          refine rl_nil ?_
          refine at_then ?_
          first | refine ct_dec rfl (fun h4 => ?_) (fun h4 => ?_) | refine ct_ndec rfl (fun h4 => ?_) (fun h4 => ?_) | refine ct_eq rfl (fun h4 => ?_) (fun h4 => ?_) | refine ct_ne rfl (fun h4 => ?_) (fun h4 => ?_) | refine ct_not rfl (fun h4 => ?_) (fun h4 => ?_) | refine ct_cond rfl (fun h4 => ?_) (fun h4 => ?_)
          ·
            exfalso; first | omega | exact absurd rfl h4 | (simp at h4; done) | (simp_all; done)
          ·
            refine ct_skip ?_
            refine at_then ?_
            refine ct_seq ?_
            refine ct_seq ?_
            refine ct_reg ?_
            refine rl_val gw_none (ov_move rfl) rfl ?_
            refine rl_val gw_none (ov_move rfl) rfl ?_
            refine rl_val gw_none (ov_neq rfl rfl) rfl ?_
            refine rl_nil ?_
            refine at_then ?_
            first | refine ct_dec rfl (fun h5 => ?_) (fun h5 => ?_) | refine ct_ndec rfl (fun h5 => ?_) (fun h5 => ?_) | refine ct_eq rfl (fun h5 => ?_) (fun h5 => ?_) | refine ct_ne rfl (fun h5 => ?_) (fun h5 => ?_) | refine ct_not rfl (fun h5 => ?_) (fun h5 => ?_) | refine ct_cond rfl (fun h5 => ?_) (fun h5 => ?_)
            ·
              exfalso; first | omega | exact absurd rfl h5 | (simp at h5; done) | (simp_all; done)
            ·
              refine ct_skip ?_
              refine at_then ?_
              refine ct_seq ?_
              refine ct_reg ?_
              first | refine rl_val gw_none (ov_loadall 5 ag30 rfl rfl rfl) rfl ?_ | refine rl_val gw_none (ov_loada 5 ag30 rfl rfl rfl (by assumption)) rfl ?_
              refine rl_calle (ι := Nat) (fun q => .agg (List.toArray (α := Value) [.int .i64 u, .int .i64 l, .slice (some ⟨q, 0, none⟩) xs.length xs.length])) (fun q => [(some q, _, flat encIntA2 xs)]) (fun _ => True) goes22 rfl (fun w1 hp => toFrame_c u l xs _ _ zu zl hGxs (hsxs.ext hp.ext0) hbxs) rfl (fun qhxs _ => ?_)
              refine rl_val gw_none (ov_move rfl) rfl ?_
              refine rl_callsl (ι := Nat × List Value) (fun i bo => .tuple #[(sv bo ((cdR u l xs n).length) i.1), .bool (cdB u l xs n)]) (fun i => ints (cdR u l xs n) ++ i.2) (fun i bo => Sl 1 bo ((cdR u l xs n).length) i.1 (ints (cdR u l xs n)) i.2) goes38 rfl (fun w1 hp => iCountDown_c u l xs n _ _ zu zl hGxs (hp.sr1 0 rfl (flat_length encIntA2_len _) hmxs) zn) rfl (fun iH0 boH0 hsH0 => ?_)
              refine rl_val gw_none (ov_move rfl) rfl ?_
              refine rl_val gw_none (ov_extract rfl rfl) rfl ?_
              refine rl_val gw_none (ov_extract rfl rfl) rfl ?_
              refine rl_val gw_none (ov_assign rfl) rfl ?_
              refine rl_val gw_none (ov_assign rfl) rfl ?_
              refine rl_nil ?_
              refine at_then ?_
              refine ct_seq ?_
              refine ct_seq ?_
              refine ct_reg ?_
              refine rl_val gw_none (ov_move rfl) rfl ?_
              refine rl_val gw_none (ov_move rfl) rfl ?_
              refine rl_callv gw_none goes39 rfl (fun w1 hp => eqIntS_c _ _ _ _ (hp.slsr 0 rfl hsH0) (hp.slsr 5 rfl hsW0)) rfl ?_
              refine rl_val gw_none (ov_not rfl) rfl ?_
              refine rl_val gw_none (ov_move rfl) rfl ?_
              refine rl_val (gw_some rfl rfl rfl) (ov_move rfl) rfl ?_
              refine rl_val (gw_some rfl rfl rfl) (ov_move rfl) rfl ?_
              refine rl_val (gw_some rfl rfl rfl) (ov_neb Try.underlying4 rfl rfl) rfl ?_
              refine rl_val gw_none (ov_pick_f rfl rfl rfl) rfl ?_
              refine rl_nil ?_
              refine at_then ?_
              first | refine ct_dec rfl (fun h6 => ?_) (fun h6 => ?_) | refine ct_ndec rfl (fun h6 => ?_) (fun h6 => ?_) | refine ct_eq rfl (fun h6 => ?_) (fun h6 => ?_) | refine ct_ne rfl (fun h6 => ?_) (fun h6 => ?_) | refine ct_not rfl (fun h6 => ?_) (fun h6 => ?_) | refine ct_cond rfl (fun h6 => ?_) (fun h6 => ?_)
              ·
                exfalso; first | omega | exact absurd rfl h6 | (simp at h6; done) | (simp_all; done)
              ·
                refine ct_skip ?_
                refine at_then ?_
                refine ct_seq ?_
                refine ct_reg ?_
                refine rl_val gw_none (ov_assign rfl) rfl ?_
                refine rl_nil ?_
                refine at_then ?_
                refine ct_seq ?_
                refine ct_reg ?_
                refine rl_val gw_none (ov_move rfl) rfl ?_
                refine rl_val gw_none (ov_move rfl) rfl ?_
                refine rl_callv gw_none goes41 rfl (fun w1 hp => heldIntS_c  _ _ _ _ (hp.slsr 3 rfl (hsG0.marked _)) (by omega)) rfl ?_
                refine rl_val gw_none (ov_assign rfl) rfl ?_
                refine rl_nil ?_
                refine at_then ?_
                refine ct_seq ?_
                refine ct_seq ?_
                refine ct_reg ?_
                refine rl_val gw_none (ov_move rfl) rfl ?_
                refine rl_val gw_none (ov_lss rfl rfl) rfl ?_
                refine rl_nil ?_
                refine at_then ?_
                first | refine ct_dec rfl (fun h7 => ?_) (fun h7 => ?_) | refine ct_ndec rfl (fun h7 => ?_) (fun h7 => ?_) | refine ct_eq rfl (fun h7 => ?_) (fun h7 => ?_) | refine ct_ne rfl (fun h7 => ?_) (fun h7 => ?_) | refine ct_not rfl (fun h7 => ?_) (fun h7 => ?_) | refine ct_cond rfl (fun h7 => ?_) (fun h7 => ?_)
                ·
                  exfalso; first | omega | exact absurd rfl h7 | (simp at h7; done) | (simp_all; done)
                ·
                  refine ct_skip ?_
                  refine at_then ?_
                  refine ct_seq ?_
                  refine ct_seq ?_
                  refine ct_reg ?_
                  refine rl_val gw_none (ov_move rfl) rfl ?_
                  refine rl_val gw_none (ov_move rfl) rfl ?_
                  refine rl_val gw_none (ov_neq rfl rfl) rfl ?_
                  refine rl_nil ?_
                  refine at_then ?_
                  first | refine ct_dec rfl (fun h8 => ?_) (fun h8 => ?_) | refine ct_ndec rfl (fun h8 => ?_) (fun h8 => ?_) | refine ct_eq rfl (fun h8 => ?_) (fun h8 => ?_) | refine ct_ne rfl (fun h8 => ?_) (fun h8 => ?_) | refine ct_not rfl (fun h8 => ?_) (fun h8 => ?_) | refine ct_cond rfl (fun h8 => ?_) (fun h8 => ?_)
                  ·
                    exfalso; first | omega | exact absurd rfl h8 | (simp at h8; done) | (simp_all; done)
                  ·
                    refine ct_skip ?_
                    refine at_then ?_
                    refine ct_seq ?_
                    refine ct_reg ?_
                    refine rl_val gw_none (ov_assign rfl) rfl ?_
                    refine rl_nil ?_
                    refine at_then ?_
                    refine ct_ret ?_
                    refine at_ret1 Try.results9 (ro_tmp rfl) (fun w1 hp => ?_)
                    exact ⟨rfl, hp.ext0⟩

theorem law_NearestBelow (u : Int) (l : Int) (xs : List IntA2) (n : Int) (vxs : Value) (w : World) (zu : In64 u) (zl : In64 l) (hGxs : ∀ y ∈ xs, GIntA2 y) (hsxs : SR w 2 vxs xs.length (flat encIntA2 xs)) (zn : In64 n) : Calls Try.prog 10 ([.agg (List.toArray (α := Value) [.int .i64 u, .int .i64 l, vxs]), .int .i64 n]).toArray w (fun e w' => e = .returned (.bool true) ∧ Ext w w') := by
  have hlenxs := hsxs.len_le
  have hrl : (belowR u l xs n).xs.length ≤ xs.length := okR_bd (fun _ => by rw [showL_len])
  refine calls_ct Try.func10 Try.ntmps10 rfl rfl ?_
  refine ct_seq ?_
  refine ct_reg ?_
  refine rl_box rfl rfl (fun N1 => ?_)
  refine rl_val gw_none (ov_assign rfl) rfl ?_
  refine rl_nil ?_
  refine at_then ?_
  refine ct_seq ?_
  refine ct_reg ?_
  refine rl_val gw_none (ov_assign rfl) rfl ?_
  refine rl_nil ?_
  refine at_then ?_
  refine ct_seq ?_
  refine ct_reg ?_
  first | refine rl_val gw_none (ov_loadall 0 ag30 rfl rfl rfl) rfl ?_ | refine rl_val gw_none (ov_loada 0 ag30 rfl rfl rfl (by assumption)) rfl ?_
  refine rl_val gw_none (ov_move rfl) rfl ?_
  refine rl_callx (ι := Int) (fun r => .int .i64 r) (fun r => r < 0 ∨ (0 ≤ r ∧ r ≤ 1048576 - xs.length)) gw_none goes20 rfl (fun w1 hp => szFrame_c 1048576 u l xs _ _ zu zl hGxs (hsxs.ext hp.ext0) (by omega)) rfl (fun rxs hrxs => ?_)
  refine rl_val gw_none (ov_assign rfl) rfl ?_
  refine rl_nil ?_
  refine at_then ?_
  refine ct_seq ?_
  refine ct_seq ?_
  refine ct_reg ?_
  refine rl_val gw_none (ov_move rfl) rfl ?_
  refine rl_val gw_none (ov_lss rfl rfl) rfl ?_
  refine rl_nil ?_
  refine at_then ?_
  first | refine ct_dec rfl (fun h1 => ?_) (fun h1 => ?_) | refine ct_ndec rfl (fun h1 => ?_) (fun h1 => ?_) | refine ct_eq rfl (fun h1 => ?_) (fun h1 => ?_) | refine ct_ne rfl (fun h1 => ?_) (fun h1 => ?_) | refine ct_not rfl (fun h1 => ?_) (fun h1 => ?_) | refine ct_cond rfl (fun h1 => ?_) (fun h1 => ?_)
  ·
    refine ct_seq ?_
    refine ct_reg ?_
    refine rl_val gw_none (ov_assign rfl) rfl ?_
    refine rl_nil ?_
    refine at_then ?_
    refine ct_ret ?_
    refine at_then_ret ?_
    refine at_ret1 Try.results10 (ro_tmp rfl) (fun w1 hp => ?_)
    exact ⟨rfl, hp.ext0⟩
  ·
    have hbxs : xs.length ≤ 1048576 := by omega
    have hmxs : xs.length ≤ maxLen := by unfold maxLen; omega
    refine ct_skip ?_
    refine at_then ?_
    refine ct_seq ?_
    refine ct_reg ?_
    first | refine rl_val gw_none (ov_loadall 0 ag30 rfl rfl rfl) rfl ?_ | refine rl_val gw_none (ov_loada 0 ag30 rfl rfl rfl (by assumption)) rfl ?_
    refine rl_calle (ι := Nat) (fun q => .agg (List.toArray (α := Value) [.int .i64 u, .int .i64 l, .slice (some ⟨q, 0, none⟩) xs.length xs.length])) (fun q => [(some q, _, flat encIntA2 xs)]) (fun _ => True) goes22 rfl (fun w1 hp => toFrame_c u l xs _ _ zu zl hGxs (hsxs.ext hp.ext0) hbxs) rfl (fun qwxs _ => ?_)
    refine rl_val gw_none (ov_move rfl) rfl ?_
    refine rl_callsl (ι := Nat × List Value) (fun i bo => .tuple #[.agg [.int .i64 (belowR u l xs n).u, .int .i64 (belowR u l xs n).l, (sv bo ((belowR u l xs n).xs.length) i.1)].toArray, .bool (belowR u l xs n).ok]) (fun i => flat encIntA2 (belowR u l xs n).xs ++ i.2) (fun i bo => Sl 2 bo ((belowR u l xs n).xs.length) i.1 (flat encIntA2 (belowR u l xs n).xs) i.2) goes42 rfl (fun w1 hp => sNearestBelow_c u l xs n _ _ zu zl hGxs (hp.sr1 0 rfl (flat_length encIntA2_len _) hmxs) zn) rfl (fun iW0 boW0 hsW0 => ?_)
    refine rl_val gw_none (ov_move rfl) rfl ?_
    refine rl_val gw_none (ov_extract rfl rfl) rfl ?_
    refine rl_val gw_none (ov_extract rfl rfl) rfl ?_
    refine rl_alloc ze24 rfl (fun N2 => ?_)
    refine rl_store [] sz24 rfl rfl rfl rfl rfl (Nat.le_of_ble_eq_true rfl) ?_
    refine rl_val gw_none (ov_assign rfl) rfl ?_
    refine rl_nil ?_
    refine at_then ?_
    refine ct_seq ?_
    refine ct_reg ?_
    first | refine rl_val gw_none (ov_loadall 3 ag30 rfl rfl rfl) rfl ?_ | refine rl_val gw_none (ov_loada 3 ag30 rfl rfl rfl (by assumption)) rfl ?_
    refine rl_calle (ι := Nat) (fun q => .agg (List.toArray (α := Value) [.int .i64 u, .int .i64 l, .slice (some ⟨q, 0, none⟩) xs.length xs.length])) (fun q => [(some q, _, flat encIntA2 xs)]) (fun _ => True) goes22 rfl (fun w1 hp => toFrame_c u l xs _ _ zu zl hGxs (hsxs.ext hp.ext0) hbxs) rfl (fun qxxs _ => ?_)
    refine rl_alloc ze24 rfl (fun N3 => ?_)
    refine rl_store [] sz24 rfl rfl rfl rfl rfl (Nat.le_of_ble_eq_true rfl) ?_
    refine rl_nil ?_
    refine at_then ?_
    refine ct_seq ?_
    refine ct_reg ?_
    first | refine rl_val gw_none (ov_loadall 0 ag24 rfl rfl rfl) rfl ?_ | refine rl_val gw_none (ov_loada 0 ag24 rfl rfl rfl (by assumption)) rfl ?_
    refine rl_val gw_none (ov_move rfl) rfl ?_
    refine rl_callsl (ι := Nat × List Value) (fun i bo => .tuple #[.agg [.int .i64 (belowR u l xs n).u, .int .i64 (belowR u l xs n).l, (sv bo ((belowR u l xs n).xs.length) i.1)].toArray, .bool (belowR u l xs n).ok]) (fun i => flat encIntA2 (belowR u l xs n).xs ++ i.2) (fun i bo => Sl 2 bo ((belowR u l xs n).xs.length) i.1 (flat encIntA2 (belowR u l xs n).xs) i.2) goes43 rfl (fun w1 hp => iNearestBelow_c u l xs n _ _ zu zl hGxs (hp.sr1 1 rfl (flat_length encIntA2_len _) hmxs) zn) rfl (fun iG0 boG0 hsG0 => ?_)
    refine rl_val gw_none (ov_move rfl) rfl ?_
    refine rl_val gw_none (ov_extract rfl rfl) rfl ?_
    refine rl_val gw_none (ov_extract rfl rfl) rfl ?_
    refine rl_alloc ze24 rfl (fun N4 => ?_)
    refine rl_store [] sz24 rfl rfl rfl rfl rfl (Nat.le_of_ble_eq_true rfl) ?_
    refine rl_val gw_none (ov_assign rfl) rfl ?_
    refine rl_nil ?_
    refine at_then ?_
    refine ct_seq ?_
    refine ct_seq ?_
    refine ct_reg ?_
    first | refine rl_val gw_none (ov_loadall 0 ag24 rfl rfl rfl) rfl ?_ | refine rl_val gw_none (ov_loada 0 ag24 rfl rfl rfl (by assumption)) rfl ?_
    first | refine rl_val gw_none (ov_loadall 4 ag24 rfl rfl rfl) rfl ?_ | refine rl_val gw_none (ov_loada 4 ag24 rfl rfl rfl (by assumption)) rfl ?_
    refine rl_callv gw_none goes17 rfl (fun w1 hp => eqFrame_c _ _ (belowR u l xs n).xs _ _ _ (hp.slsr 1 rfl hsG0) (hp.slsr 5 rfl hsW0)) rfl ?_
    refine rl_val gw_none (ov_not rfl) rfl ?_
    refine rl_val gw_none (ov_move rfl) rfl ?_
    refine rl_val (gw_some rfl rfl rfl) (ov_move rfl) rfl ?_
    refine rl_val (gw_some rfl rfl rfl) (ov_move rfl) rfl ?_
    refine rl_val (gw_some rfl rfl rfl) (ov_neb Try.underlying4 rfl rfl) rfl ?_
    refine rl_val gw_none (ov_pick_f rfl rfl rfl) rfl ?_
    refine rl_nil ?_
    refine at_then ?_
    first | refine ct_dec rfl (fun h2 => ?_) (fun h2 => ?_) | refine ct_ndec rfl (fun h2 => ?_) (fun h2 => ?_) | refine ct_eq rfl (fun h2 => ?_) (fun h2 => ?_) | refine ct_ne rfl (fun h2 => ?_) (fun h2 => ?_) | refine ct_not rfl (fun h2 => ?_) (fun h2 => ?_) | refine ct_cond rfl (fun h2 => ?_) (fun h2 => ?_)
    ·
      exfalso; first | omega | exact absurd rfl h2 | (simp at h2; done) | (simp_all; done)
    ·
      refine ct_skip ?_
      refine at_then ?_
      refine ct_seq ?_
      refine ct_seq ?_
      refine ct_dre 3 [0, 1, 2, 3, 4] [2] (by kernel_rfl) (by kernel_rfl) ?_
      first | refine qe_val rfl gw_none (ov_loadall 2 ag24 rfl rfl rfl) rfl ?_ | refine qe_val rfl gw_none (ov_loada 2 ag24 rfl rfl rfl (by assumption)) rfl ?_
      first | refine qe_val rfl gw_none (ov_loadall 7 ag30 rfl rfl rfl) rfl ?_ | refine qe_val rfl gw_none (ov_loada 7 ag30 rfl rfl rfl (by assumption)) rfl ?_
      refine qe_calle (ι := Nat) (fun q => .agg (List.toArray (α := Value) [.int .i64 u, .int .i64 l, .slice (some ⟨q, 0, none⟩) xs.length xs.length])) (fun q => [(some q, _, flat encIntA2 xs)]) (fun _ => True) rfl goes22 rfl (fun w1 hp => toFrame_c u l xs _ _ zu zl hGxs (hsxs.ext hp.ext0) hbxs) rfl (fun qcxs _ => ?_)
      refine qe_nil ?_
      refine rl_callv gw_none goes17 rfl (fun w1 hp => eqFrame_c u l xs _ _ _  (hp.sr1 4 rfl (flat_length encIntA2_len _) hmxs) (hp.sr1 0 rfl (flat_length encIntA2_len _) hmxs)) rfl ?_
      refine rl_val gw_none (ov_not rfl) rfl ?_
      refine rl_nil ?_
      refine at_then ?_
      refine ct_false rfl rfl ?_
      refine ct_skip ?_
      refine at_then ?_
      refine ct_seq ?_
      refine ct_reg ?_
      refine rl_val gw_none (ov_assign rfl) rfl ?_
      refine rl_nil ?_
      refine at_then ?_
      refine ct_seq ?_
      refine ct_reg ?_
      first | refine rl_val gw_none (ov_loadall 3 ag24 rfl rfl rfl) rfl ?_ | refine rl_val gw_none (ov_loada 3 ag24 rfl rfl rfl (by assumption)) rfl ?_
      refine rl_val gw_none (ov_move rfl) rfl ?_
      refine rl_callm [_, _, _, _] goes18 rfl rfl (fun w1 hp => markFrame_m _ _ _ _ _ _ _ _ (hp.at (i := 4) rfl) (flat_length encIntA2_len _) (by omega)) rfl ?_
      refine rl_val gw_none (ov_assign rfl) rfl ?_
      refine rl_nil ?_
      refine at_then ?_
      refine ct_seq ?_
      refine ct_seq ?_
      refine ct_reg ?_
      refine rl_val gw_none (ov_move rfl) rfl ?_
      refine rl_val gw_none (ov_lss rfl rfl) rfl ?_
      refine rl_val gw_none (ov_move rfl) rfl ?_
      refine rl_split (t := 55) rfl (fun g1 => ?_) (fun g1 => ?_)
      ·
        exfalso; first | (simp at g1; omega) | (simp at g1; done) | (simp_all; done)
      ·
        have g1' := g1
        try simp only [Bool.not_eq_true', Bool.not_eq_false', Bool.not_not, decide_eq_true_eq, decide_eq_false_iff_not, beq_iff_eq, beq_eq_false_iff_ne, bne_iff_ne, bne_eq_false_iff_eq, Bool.and_eq_true, Bool.or_eq_true, Bool.and_eq_false_iff, Bool.or_eq_false_iff, inB] at g1'
        first | refine rl_val (gw_some rfl rfl g1) (ov_loadall 1 ag24 rfl rfl rfl) rfl ?_ | refine rl_val (gw_some rfl rfl g1) (ov_loada 1 ag24 rfl rfl rfl (by assumption)) rfl ?_
        first | refine rl_val (gw_some rfl rfl g1) (ov_loadall 4 ag24 rfl rfl rfl) rfl ?_ | refine rl_val (gw_some rfl rfl g1) (ov_loada 4 ag24 rfl rfl rfl (by assumption)) rfl ?_
        refine rl_callv (gw_some rfl rfl g1) goes17 rfl (fun w1 hp => eqFrame_c _ _ (belowR u l xs n).xs _ _ _ (hp.slsr 2 rfl hsG0) (hp.slsr 5 rfl hsW0)) rfl ?_
        refine rl_val (gw_some rfl rfl g1) (ov_not rfl) rfl ?_
        refine rl_val gw_none (ov_pick_f rfl g1 rfl) rfl ?_
        refine rl_val gw_none (ov_move rfl) rfl ?_
        refine rl_val (gw_some rfl rfl rfl) (ov_move rfl) rfl ?_
        refine rl_val (gw_some rfl rfl rfl) (ov_move rfl) rfl ?_
        refine rl_val (gw_some rfl rfl rfl) (ov_neb Try.underlying4 rfl rfl) rfl ?_
        refine rl_val gw_none (ov_pick_f rfl rfl rfl) rfl ?_
        refine rl_nil ?_
        refine at_then ?_
        first | refine ct_dec rfl (fun h3 => ?_) (fun h3 => ?_) | refine ct_ndec rfl (fun h3 => ?_) (fun h3 => ?_) | refine ct_eq rfl (fun h3 => ?_) (fun h3 => ?_) | refine ct_ne rfl (fun h3 => ?_) (fun h3 => ?_) | refine ct_not rfl (fun h3 => ?_) (fun h3 => ?_) | refine ct_cond rfl (fun h3 => ?_) (fun h3 => ?_)
        ·
          exfalso; first | omega | exact absurd rfl h3 | (simp at h3; done) | (simp_all; done)
        ·
          refine ct_skip ?_
          refine at_then ?_
          refine ct_seq ?_
          refine ct_reg ?_
          refine rl_val gw_none (ov_assign rfl) rfl ?_
          refine rl_nil ?_
          refine at_then ?_
          refine ct_seq ?_
          refine ct_reg ?_
          first | refine rl_val gw_none (ov_loadall 1 ag24 rfl rfl rfl) rfl ?_ | refine rl_val gw_none (ov_loada 1 ag24 rfl rfl rfl (by assumption)) rfl ?_
          refine rl_val gw_none (ov_move rfl) rfl ?_
          refine rl_callwo [_, _] goes18 rfl rfl (fun w1 hp => markFrame_o _ _ _ hsG0 _ (hp.atO 2 rfl) (by omega)) rfl ?_
          refine rl_val gw_none (ov_assign rfl) rfl ?_
          refine rl_nil ?_
          refine at_then ?_
          refine ct_seq ?_
          refine ct_reg ?_
          refine rl_val gw_none (ov_assign rfl) rfl ?_
          refine rl_nil ?_
          refine at_then ?_
          refine ct_seq ?_
          refine ct_reg ?_
          first | refine rl_val gw_none (ov_loadall 1 ag24 rfl rfl rfl) rfl ?_ | refine rl_val gw_none (ov_loada 1 ag24 rfl rfl rfl (by assumption)) rfl ?_
          refine rl_val gw_none (ov_move rfl) rfl ?_
          refine rl_callv gw_none goes19 rfl (fun w1 hp => heldFrame_c _ _ _ _ _ _ (hp.slsr 2 rfl (hsG0.marked _)) (by omega)) rfl ?_
          refine rl_val gw_none (ov_assign rfl) rfl ?_
          refine rl_nil ?_
          refine at_then ?_
          refine ct_seq ?_
          refine ct_seq ?_
          refine ct_reg ?_
          refine rl_val gw_none (ov_move rfl) rfl ?_
          refine rl_val gw_none (ov_lss rfl rfl) rfl ?_
          refine rl_nil ?_
          refine at_then ?_
          first | refine ct_dec rfl (fun h4 => ?_) (fun h4 => ?_) | refine ct_ndec rfl (fun h4 => ?_) (fun h4 => ?_) | refine ct_eq rfl (fun h4 => ?_) (fun h4 => ?_) | refine ct_ne rfl (fun h4 => ?_) (fun h4 => ?_) | refine ct_not rfl (fun h4 => ?_) (fun h4 => ?_) | refine ct_cond rfl (fun h4 => ?_) (fun h4 => ?_)
          ·
            exfalso; first | omega | exact absurd rfl h4 | (simp at h4; done) | (simp_all; done)
          ·
            refine ct_skip ?_
            refine at_then ?_
            refine ct_seq ?_
            refine ct_seq ?_
            refine ct_reg ?_
            refine rl_val gw_none (ov_move rfl) rfl ?_
            refine rl_val gw_none (ov_move rfl) rfl ?_
            refine rl_val gw_none (ov_neq rfl rfl) rfl ?_
            refine rl_nil ?_
            refine at_then ?_
            first | refine ct_dec rfl (fun h5 => ?_) (fun h5 => ?_) | refine ct_ndec rfl (fun h5 => ?_) (fun h5 => ?_) | refine ct_eq rfl (fun h5 => ?_) (fun h5 => ?_) | refine ct_ne rfl (fun h5 => ?_) (fun h5 => ?_) | refine ct_not rfl (fun h5 => ?_) (fun h5 => ?_) | refine ct_cond rfl (fun h5 => ?_) (fun h5 => ?_)
            ·
              exfalso; first | omega | exact absurd rfl h5 | (simp at h5; done) | (simp_all; done)
            ·
              refine ct_skip ?_
              refine at_then ?_
              refine ct_seq ?_
              refine ct_reg ?_
              first | refine rl_val gw_none (ov_loadall 7 ag30 rfl rfl rfl) rfl ?_ | refine rl_val gw_none (ov_loada 7 ag30 rfl rfl rfl (by assumption)) rfl ?_
              refine rl_calle (ι := Nat) (fun q => .agg (List.toArray (α := Value) [.int .i64 u, .int .i64 l, .slice (some ⟨q, 0, none⟩) xs.length xs.length])) (fun q => [(some q, _, flat encIntA2 xs)]) (fun _ => True) goes22 rfl (fun w1 hp => toFrame_c u l xs _ _ zu zl hGxs (hsxs.ext hp.ext0) hbxs) rfl (fun qhxs _ => ?_)
              refine rl_val gw_none (ov_move rfl) rfl ?_
              refine rl_callsl (ι := Nat × List Value) (fun i bo => .tuple #[.agg [.int .i64 (belowR u l xs n).u, .int .i64 (belowR u l xs n).l, (sv bo ((belowR u l xs n).xs.length) i.1)].toArray, .bool (belowR u l xs n).ok]) (fun i => flat encIntA2 (belowR u l xs n).xs ++ i.2) (fun i bo => Sl 2 bo ((belowR u l xs n).xs.length) i.1 (flat encIntA2 (belowR u l xs n).xs) i.2) goes43 rfl (fun w1 hp => iNearestBelow_c u l xs n _ _ zu zl hGxs (hp.sr1 0 rfl (flat_length encIntA2_len _) hmxs) zn) rfl (fun iH0 boH0 hsH0 => ?_)
              refine rl_val gw_none (ov_move rfl) rfl ?_
              refine rl_val gw_none (ov_extract rfl rfl) rfl ?_
              refine rl_val gw_none (ov_extract rfl rfl) rfl ?_
              refine rl_alloc ze24 rfl (fun N5 => ?_)
              refine rl_store [] sz24 rfl rfl rfl rfl rfl (Nat.le_of_ble_eq_true rfl) ?_
              refine rl_val gw_none (ov_assign rfl) rfl ?_
              refine rl_nil ?_
              refine at_then ?_
              refine ct_seq ?_
              refine ct_seq ?_
              refine ct_reg ?_
              first | refine rl_val gw_none (ov_loadall 0 ag24 rfl rfl rfl) rfl ?_ | refine rl_val gw_none (ov_loada 0 ag24 rfl rfl rfl (by assumption)) rfl ?_
              first | refine rl_val gw_none (ov_loadall 7 ag24 rfl rfl rfl) rfl ?_ | refine rl_val gw_none (ov_loada 7 ag24 rfl rfl rfl (by assumption)) rfl ?_
              refine rl_callv gw_none goes17 rfl (fun w1 hp => eqFrame_c _ _ (belowR u l xs n).xs _ _ _ (hp.slsr 1 rfl hsH0) (hp.slsr 8 rfl hsW0)) rfl ?_
              refine rl_val gw_none (ov_not rfl) rfl ?_
              refine rl_val gw_none (ov_move rfl) rfl ?_
              refine rl_val (gw_some rfl rfl rfl) (ov_move rfl) rfl ?_
              refine rl_val (gw_some rfl rfl rfl) (ov_move rfl) rfl ?_
              refine rl_val (gw_some rfl rfl rfl) (ov_neb Try.underlying4 rfl rfl) rfl ?_
              refine rl_val gw_none (ov_pick_f rfl rfl rfl) rfl ?_
              refine rl_nil ?_
              refine at_then ?_
              first | refine ct_dec rfl (fun h6 => ?_) (fun h6 => ?_) | refine ct_ndec rfl (fun h6 => ?_) (fun h6 => ?_) | refine ct_eq rfl (fun h6 => ?_) (fun h6 => ?_) | refine ct_ne rfl (fun h6 => ?_) (fun h6 => ?_) | refine ct_not rfl (fun h6 => ?_) (fun h6 => ?_) | refine ct_cond rfl (fun h6 => ?_) (fun h6 => ?_)
              ·
                exfalso; first | omega | exact absurd rfl h6 | (simp at h6; done) | (simp_all; done)
              ·
                refine ct_skip ?_
                refine at_then ?_
                refine ct_seq ?_
                refine ct_reg ?_
                refine rl_val gw_none (ov_assign rfl) rfl ?_
                refine rl_nil ?_
                refine at_then ?_
                refine ct_seq ?_
                refine ct_reg ?_
                first | refine rl_val gw_none (ov_loadall 4 ag24 rfl rfl rfl) rfl ?_ | refine rl_val gw_none (ov_loada 4 ag24 rfl rfl rfl (by assumption)) rfl ?_
                refine rl_val gw_none (ov_move rfl) rfl ?_
                refine rl_callv gw_none goes19 rfl (fun w1 hp => heldFrame_c _ _ _ _ _ _ (hp.slsr 5 rfl (hsG0.marked _)) (by omega)) rfl ?_
                refine rl_val gw_none (ov_assign rfl) rfl ?_
                refine rl_nil ?_
                refine at_then ?_
                refine ct_seq ?_
                refine ct_seq ?_
                refine ct_reg ?_
                refine rl_val gw_none (ov_move rfl) rfl ?_
                refine rl_val gw_none (ov_lss rfl rfl) rfl ?_
                refine rl_nil ?_
                refine at_then ?_
                first | refine ct_dec rfl (fun h7 => ?_) (fun h7 => ?_) | refine ct_ndec rfl (fun h7 => ?_) (fun h7 => ?_) | refine ct_eq rfl (fun h7 => ?_) (fun h7 => ?_) | refine ct_ne rfl (fun h7 => ?_) (fun h7 => ?_) | refine ct_not rfl (fun h7 => ?_) (fun h7 => ?_) | refine ct_cond rfl (fun h7 => ?_) (fun h7 => ?_)
                ·
                  exfalso; first | omega | exact absurd rfl h7 | (simp at h7; done) | (simp_all; done)
                ·
                  refine ct_skip ?_
                  refine at_then ?_
                  refine ct_seq ?_
                  refine ct_seq ?_
                  refine ct_reg ?_
                  refine rl_val gw_none (ov_move rfl) rfl ?_
                  refine rl_val gw_none (ov_move rfl) rfl ?_
                  refine rl_val gw_none (ov_neq rfl rfl) rfl ?_
                  refine rl_nil ?_
                  refine at_then ?_
                  first | refine ct_dec rfl (fun h8 => ?_) (fun h8 => ?_) | refine ct_ndec rfl (fun h8 => ?_) (fun h8 => ?_) | refine ct_eq rfl (fun h8 => ?_) (fun h8 => ?_) | refine ct_ne rfl (fun h8 => ?_) (fun h8 => ?_) | refine ct_not rfl (fun h8 => ?_) (fun h8 => ?_) | refine ct_cond rfl (fun h8 => ?_) (fun h8 => ?_)
                  ·
                    exfalso; first | omega | exact absurd rfl h8 | (simp at h8; done) | (simp_all; done)
                  ·
                    refine ct_skip ?_
                    refine at_then ?_
                    refine ct_seq ?_
                    refine ct_reg ?_
                    refine rl_val gw_none (ov_assign rfl) rfl ?_
                    refine rl_nil ?_
                    refine at_then ?_
                    refine ct_ret ?_
                    refine at_ret1 Try.results10 (ro_tmp rfl) (fun w1 hp => ?_)
                    exact ⟨rfl, hp.ext0⟩

theorem law_QuotientOn (u : Int) (l : Int) (xs : List IntA2) (n : Int) (vxs : Value) (w : World) (zu : In64 u) (zl : In64 l) (hGxs : ∀ y ∈ xs, GIntA2 y) (hsxs : SR w 2 vxs xs.length (flat encIntA2 xs)) (zn : In64 n) : Calls Try.prog 11 ([.agg (List.toArray (α := Value) [.int .i64 u, .int .i64 l, vxs]), .int .i64 n]).toArray w (fun e w' => e = .returned (.bool true) ∧ Ext w w') := by
  have hlenxs := hsxs.len_le
  have hrl : (quotR u l xs n).xs.length ≤ xs.length := okR_bd (fun _ => by rw [showL_len])
  refine calls_ct Try.func11 Try.ntmps11 rfl rfl ?_
  refine ct_seq ?_
  refine ct_reg ?_
  refine rl_box rfl rfl (fun N1 => ?_)
  refine rl_val gw_none (ov_assign rfl) rfl ?_
  refine rl_nil ?_
  refine at_then ?_
  refine ct_seq ?_
  refine ct_reg ?_
  refine rl_val gw_none (ov_assign rfl) rfl ?_
  refine rl_nil ?_
  refine at_then ?_
  refine ct_seq ?_
  refine ct_reg ?_
  first | refine rl_val gw_none (ov_loadall 0 ag30 rfl rfl rfl) rfl ?_ | refine rl_val gw_none (ov_loada 0 ag30 rfl rfl rfl (by assumption)) rfl ?_
  refine rl_val gw_none (ov_move rfl) rfl ?_
  refine rl_callx (ι := Int) (fun r => .int .i64 r) (fun r => r < 0 ∨ (0 ≤ r ∧ r ≤ 1048576 - xs.length)) gw_none goes20 rfl (fun w1 hp => szFrame_c 1048576 u l xs _ _ zu zl hGxs (hsxs.ext hp.ext0) (by omega)) rfl (fun rxs hrxs => ?_)
  refine rl_val gw_none (ov_assign rfl) rfl ?_
  refine rl_nil ?_
  refine at_then ?_
  refine ct_seq ?_
  refine ct_seq ?_
  refine ct_reg ?_
  refine rl_val gw_none (ov_move rfl) rfl ?_
  refine rl_val gw_none (ov_lss rfl rfl) rfl ?_
  refine rl_nil ?_
  refine at_then ?_
  first | refine ct_dec rfl (fun h1 => ?_) (fun h1 => ?_) | refine ct_ndec rfl (fun h1 => ?_) (fun h1 => ?_) | refine ct_eq rfl (fun h1 => ?_) (fun h1 => ?_) | refine ct_ne rfl (fun h1 => ?_) (fun h1 => ?_) | refine ct_not rfl (fun h1 => ?_) (fun h1 => ?_) | refine ct_cond rfl (fun h1 => ?_) (fun h1 => ?_)
  ·
    refine ct_seq ?_
    refine ct_reg ?_
    refine rl_val gw_none (ov_assign rfl) rfl ?_
    refine rl_nil ?_
    refine at_then ?_
    refine ct_ret ?_
    refine at_then_ret ?_
    refine at_ret1 Try.results11 (ro_tmp rfl) (fun w1 hp => ?_)
    exact ⟨rfl, hp.ext0⟩
  ·
    have hbxs : xs.length ≤ 1048576 := by omega
    have hmxs : xs.length ≤ maxLen := by unfold maxLen; omega
    refine ct_skip ?_
    refine at_then ?_
    refine ct_seq ?_
    refine ct_reg ?_
    first | refine rl_val gw_none (ov_loadall 0 ag30 rfl rfl rfl) rfl ?_ | refine rl_val gw_none (ov_loada 0 ag30 rfl rfl rfl (by assumption)) rfl ?_
    refine rl_calle (ι := Nat) (fun q => .agg (List.toArray (α := Value) [.int .i64 u, .int .i64 l, .slice (some ⟨q, 0, none⟩) xs.length xs.length])) (fun q => [(some q, _, flat encIntA2 xs)]) (fun _ => True) goes22 rfl (fun w1 hp => toFrame_c u l xs _ _ zu zl hGxs (hsxs.ext hp.ext0) hbxs) rfl (fun qwxs _ => ?_)
    refine rl_val gw_none (ov_move rfl) rfl ?_
    refine rl_callsl (ι := Nat × List Value) (fun i bo => .tuple #[.agg [.int .i64 (quotR u l xs n).u, .int .i64 (quotR u l xs n).l, (sv bo ((quotR u l xs n).xs.length) i.1)].toArray, .int .i64 (quotM u l xs n), .bool (quotR u l xs n).ok]) (fun i => flat encIntA2 (quotR u l xs n).xs ++ i.2) (fun i bo => Sl 2 bo ((quotR u l xs n).xs.length) i.1 (flat encIntA2 (quotR u l xs n).xs) i.2) goes44 rfl (fun w1 hp => sQuotientOn_c u l xs n _ _ zu zl hGxs (hp.sr1 0 rfl (flat_length encIntA2_len _) hmxs) zn) rfl (fun iW0 boW0 hsW0 => ?_)
    refine rl_val gw_none (ov_move rfl) rfl ?_
    refine rl_val gw_none (ov_extract rfl rfl) rfl ?_
    refine rl_val gw_none (ov_extract rfl rfl) rfl ?_
    refine rl_val gw_none (ov_extract rfl rfl) rfl ?_
    refine rl_alloc ze24 rfl (fun N2 => ?_)
    refine rl_store [] sz24 rfl rfl rfl rfl rfl (Nat.le_of_ble_eq_true rfl) ?_
    refine rl_val gw_none (ov_assign rfl) rfl ?_
    refine rl_val gw_none (ov_assign rfl) rfl ?_
    refine rl_nil ?_
    refine at_then ?_
    refine ct_seq ?_
    refine ct_reg ?_
    first | refine rl_val gw_none (ov_loadall 3 ag30 rfl rfl rfl) rfl ?_ | refine rl_val gw_none (ov_loada 3 ag30 rfl rfl rfl (by assumption)) rfl ?_
    refine rl_calle (ι := Nat) (fun q => .agg (List.toArray (α := Value) [.int .i64 u, .int .i64 l, .slice (some ⟨q, 0, none⟩) xs.length xs.length])) (fun q => [(some q, _, flat encIntA2 xs)]) (fun _ => True) goes22 rfl (fun w1 hp => toFrame_c u l xs _ _ zu zl hGxs (hsxs.ext hp.ext0) hbxs) rfl (fun qxxs _ => ?_)
    refine rl_alloc ze24 rfl (fun N3 => ?_)
    refine rl_store [] sz24 rfl rfl rfl rfl rfl (Nat.le_of_ble_eq_true rfl) ?_
    refine rl_nil ?_
    refine at_then ?_
    refine ct_seq ?_
    refine ct_reg ?_
    first | refine rl_val gw_none (ov_loadall 0 ag24 rfl rfl rfl) rfl ?_ | refine rl_val gw_none (ov_loada 0 ag24 rfl rfl rfl (by assumption)) rfl ?_
    refine rl_val gw_none (ov_move rfl) rfl ?_
    refine rl_callsl (ι := Nat × List Value) (fun i bo => .tuple #[.agg [.int .i64 (quotR u l xs n).u, .int .i64 (quotR u l xs n).l, (sv bo ((quotR u l xs n).xs.length) i.1)].toArray, .int .i64 (quotM u l xs n), .bool (quotR u l xs n).ok]) (fun i => flat encIntA2 (quotR u l xs n).xs ++ i.2) (fun i bo => Sl 2 bo ((quotR u l xs n).xs.length) i.1 (flat encIntA2 (quotR u l xs n).xs) i.2) goes45 rfl (fun w1 hp => iQuotientOn_c u l xs n _ _ zu zl hGxs (hp.sr1 1 rfl (flat_length encIntA2_len _) hmxs) zn) rfl (fun iG0 boG0 hsG0 => ?_)
    refine rl_val gw_none (ov_move rfl) rfl ?_
    refine rl_val gw_none (ov_extract rfl rfl) rfl ?_
    refine rl_val gw_none (ov_extract rfl rfl) rfl ?_
    refine rl_val gw_none (ov_extract rfl rfl) rfl ?_
    refine rl_alloc ze24 rfl (fun N4 => ?_)
    refine rl_store [] sz24 rfl rfl rfl rfl rfl (Nat.le_of_ble_eq_true rfl) ?_
    refine rl_val gw_none (ov_assign rfl) rfl ?_
    refine rl_val gw_none (ov_assign rfl) rfl ?_
    refine rl_nil ?_
    refine at_then ?_
    refine ct_seq ?_
    refine ct_seq ?_
    refine ct_reg ?_
    first | refine rl_val gw_none (ov_loadall 0 ag24 rfl rfl rfl) rfl ?_ | refine rl_val gw_none (ov_loada 0 ag24 rfl rfl rfl (by assumption)) rfl ?_
    first | refine rl_val gw_none (ov_loadall 4 ag24 rfl rfl rfl) rfl ?_ | refine rl_val gw_none (ov_loada 4 ag24 rfl rfl rfl (by assumption)) rfl ?_
    refine rl_callv gw_none goes17 rfl (fun w1 hp => eqFrame_c _ _ (quotR u l xs n).xs _ _ _ (hp.slsr 1 rfl hsG0) (hp.slsr 5 rfl hsW0)) rfl ?_
    refine rl_val gw_none (ov_not rfl) rfl ?_
    refine rl_val gw_none (ov_move rfl) rfl ?_
    refine rl_val (gw_some rfl rfl rfl) (ov_move rfl) rfl ?_
    refine rl_val (gw_some rfl rfl rfl) (ov_move rfl) rfl ?_
    refine rl_val (gw_some rfl rfl rfl) (ov_neq rfl rfl) rfl ?_
    refine rl_val gw_none (ov_pick_f rfl rfl rfl) rfl ?_
    refine rl_val gw_none (ov_move rfl) rfl ?_
    refine rl_split (t := 50) rfl (fun g1 => ?_) (fun g1 => ?_)
    ·
      exfalso; first | (simp at g1; omega) | (simp at g1; done) | (simp_all; done)
    ·
      have g1' := g1
      try simp only [Bool.not_eq_true', Bool.not_eq_false', Bool.not_not, decide_eq_true_eq, decide_eq_false_iff_not, beq_iff_eq, beq_eq_false_iff_ne, bne_iff_ne, bne_eq_false_iff_eq, Bool.and_eq_true, Bool.or_eq_true, Bool.and_eq_false_iff, Bool.or_eq_false_iff, inB] at g1'
      refine rl_val (gw_some rfl rfl g1) (ov_move rfl) rfl ?_
      refine rl_val (gw_some rfl rfl g1) (ov_move rfl) rfl ?_
      refine rl_val (gw_some rfl rfl g1) (ov_neb Try.underlying4 rfl rfl) rfl ?_
      refine rl_val gw_none (ov_pick_f rfl g1 rfl) rfl ?_
      refine rl_nil ?_
      refine at_then ?_
      first | refine ct_dec rfl (fun h2 => ?_) (fun h2 => ?_) | refine ct_ndec rfl (fun h2 => ?_) (fun h2 => ?_) | refine ct_eq rfl (fun h2 => ?_) (fun h2 => ?_) | refine ct_ne rfl (fun h2 => ?_) (fun h2 => ?_) | refine ct_not rfl (fun h2 => ?_) (fun h2 => ?_) | refine ct_cond rfl (fun h2 => ?_) (fun h2 => ?_)
      ·
        exfalso; first | omega | exact absurd rfl h2 | (simp at h2; done) | (simp_all; done)
      ·
        refine ct_skip ?_
        refine at_then ?_
        refine ct_seq ?_
        refine ct_seq ?_
        refine ct_dre 3 [0, 1, 2, 3, 4] [2] (by kernel_rfl) (by kernel_rfl) ?_
        first | refine qe_val rfl gw_none (ov_loadall 2 ag24 rfl rfl rfl) rfl ?_ | refine qe_val rfl gw_none (ov_loada 2 ag24 rfl rfl rfl (by assumption)) rfl ?_
        first | refine qe_val rfl gw_none (ov_loadall 7 ag30 rfl rfl rfl) rfl ?_ | refine qe_val rfl gw_none (ov_loada 7 ag30 rfl rfl rfl (by assumption)) rfl ?_
        refine qe_calle (ι := Nat) (fun q => .agg (List.toArray (α := Value) [.int .i64 u, .int .i64 l, .slice (some ⟨q, 0, none⟩) xs.length xs.length])) (fun q => [(some q, _, flat encIntA2 xs)]) (fun _ => True) rfl goes22 rfl (fun w1 hp => toFrame_c u l xs _ _ zu zl hGxs (hsxs.ext hp.ext0) hbxs) rfl (fun qcxs _ => ?_)
        refine qe_nil ?_
        refine rl_callv gw_none goes17 rfl (fun w1 hp => eqFrame_c u l xs _ _ _  (hp.sr1 4 rfl (flat_length encIntA2_len _) hmxs) (hp.sr1 0 rfl (flat_length encIntA2_len _) hmxs)) rfl ?_
        refine rl_val gw_none (ov_not rfl) rfl ?_
        refine rl_nil ?_
        refine at_then ?_
        refine ct_false rfl rfl ?_
        refine ct_skip ?_
        refine at_then ?_
        refine ct_seq ?_
        refine ct_reg ?_
        refine rl_val gw_none (ov_assign rfl) rfl ?_
        refine rl_nil ?_
        refine at_then ?_
        refine ct_seq ?_
        refine ct_reg ?_
        first | refine rl_val gw_none (ov_loadall 3 ag24 rfl rfl rfl) rfl ?_ | refine rl_val gw_none (ov_loada 3 ag24 rfl rfl rfl (by assumption)) rfl ?_
        refine rl_val gw_none (ov_move rfl) rfl ?_
        refine rl_callm [_, _, _, _] goes18 rfl rfl (fun w1 hp => markFrame_m _ _ _ _ _ _ _ _ (hp.at (i := 4) rfl) (flat_length encIntA2_len _) (by omega)) rfl ?_
        refine rl_val gw_none (ov_assign rfl) rfl ?_
        refine rl_nil ?_
        refine at_then ?_
        refine ct_seq ?_
        refine ct_seq ?_
        refine ct_reg ?_
        refine rl_val gw_none (ov_move rfl) rfl ?_
        refine rl_val gw_none (ov_lss rfl rfl) rfl ?_
        refine rl_val gw_none (ov_move rfl) rfl ?_
        refine rl_split (t := 65) rfl (fun g2 => ?_) (fun g2 => ?_)
        ·
          exfalso; first | (simp at g2; omega) | (simp at g2; done) | (simp_all; done)
        ·
          have g2' := g2
          try simp only [Bool.not_eq_true', Bool.not_eq_false', Bool.not_not, decide_eq_true_eq, decide_eq_false_iff_not, beq_iff_eq, beq_eq_false_iff_ne, bne_iff_ne, bne_eq_false_iff_eq, Bool.and_eq_true, Bool.or_eq_true, Bool.and_eq_false_iff, Bool.or_eq_false_iff, inB] at g2'
          first | refine rl_val (gw_some rfl rfl g2) (ov_loadall 1 ag24 rfl rfl rfl) rfl ?_ | refine rl_val (gw_some rfl rfl g2) (ov_loada 1 ag24 rfl rfl rfl (by assumption)) rfl ?_
          first | refine rl_val (gw_some rfl rfl g2) (ov_loadall 4 ag24 rfl rfl rfl) rfl ?_ | refine rl_val (gw_some rfl rfl g2) (ov_loada 4 ag24 rfl rfl rfl (by assumption)) rfl ?_
          refine rl_callv (gw_some rfl rfl g2) goes17 rfl (fun w1 hp => eqFrame_c _ _ (quotR u l xs n).xs _ _ _ (hp.slsr 2 rfl hsG0) (hp.slsr 5 rfl hsW0)) rfl ?_
          refine rl_val (gw_some rfl rfl g2) (ov_not rfl) rfl ?_
          refine rl_val gw_none (ov_pick_f rfl g2 rfl) rfl ?_
          refine rl_val gw_none (ov_move rfl) rfl ?_
          refine rl_val (gw_some rfl rfl rfl) (ov_move rfl) rfl ?_
          refine rl_val (gw_some rfl rfl rfl) (ov_move rfl) rfl ?_
          refine rl_val (gw_some rfl rfl rfl) (ov_neq rfl rfl) rfl ?_
          refine rl_val gw_none (ov_pick_f rfl rfl rfl) rfl ?_
          refine rl_val gw_none (ov_move rfl) rfl ?_
          refine rl_split (t := 76) rfl (fun g3 => ?_) (fun g3 => ?_)
          ·
            exfalso; first | (simp at g3; omega) | (simp at g3; done) | (simp_all; done)
          ·
            have g3' := g3
            try simp only [Bool.not_eq_true', Bool.not_eq_false', Bool.not_not, decide_eq_true_eq, decide_eq_false_iff_not, beq_iff_eq, beq_eq_false_iff_ne, bne_iff_ne, bne_eq_false_iff_eq, Bool.and_eq_true, Bool.or_eq_true, Bool.and_eq_false_iff, Bool.or_eq_false_iff, inB] at g3'
            refine rl_val (gw_some rfl rfl g3) (ov_move rfl) rfl ?_
            refine rl_val (gw_some rfl rfl g3) (ov_move rfl) rfl ?_
            refine rl_val (gw_some rfl rfl g3) (ov_neb Try.underlying4 rfl rfl) rfl ?_
            refine rl_val gw_none (ov_pick_f rfl g3 rfl) rfl ?_
            refine rl_nil ?_
            refine at_then ?_
            first | refine ct_dec rfl (fun h3 => ?_) (fun h3 => ?_) | refine ct_ndec rfl (fun h3 => ?_) (fun h3 => ?_) | refine ct_eq rfl (fun h3 => ?_) (fun h3 => ?_) | refine ct_ne rfl (fun h3 => ?_) (fun h3 => ?_) | refine ct_not rfl (fun h3 => ?_) (fun h3 => ?_) | refine ct_cond rfl (fun h3 => ?_) (fun h3 => ?_)
            ·
              exfalso; first | omega | exact absurd rfl h3 | (simp at h3; done) | (simp_all; done)
            ·
              refine ct_skip ?_
              refine at_then ?_
              refine ct_seq ?_
              refine ct_reg ?_
              refine rl_val gw_none (ov_assign rfl) rfl ?_
              refine rl_nil ?_
              refine at_then ?_
              refine ct_seq ?_
              refine ct_reg ?_
              first | refine rl_val gw_none (ov_loadall 1 ag24 rfl rfl rfl) rfl ?_ | refine rl_val gw_none (ov_loada 1 ag24 rfl rfl rfl (by assumption)) rfl ?_
              refine rl_val gw_none (ov_move rfl) rfl ?_
              refine rl_callwo [_, _] goes18 rfl rfl (fun w1 hp => markFrame_o _ _ _ hsG0 _ (hp.atO 2 rfl) (by omega)) rfl ?_
              refine rl_val gw_none (ov_assign rfl) rfl ?_
              refine rl_nil ?_
              refine at_then ?_
              refine ct_seq ?_
              refine ct_reg ?_
              refine rl_val gw_none (ov_assign rfl) rfl ?_
              refine rl_nil ?_
              refine at_then ?_
              refine ct_seq ?_
              refine ct_reg ?_
              first | refine rl_val gw_none (ov_loadall 1 ag24 rfl rfl rfl) rfl ?_ | refine rl_val gw_none (ov_loada 1 ag24 rfl rfl rfl (by assumption)) rfl ?_
              refine rl_val gw_none (ov_move rfl) rfl ?_
              refine rl_callv gw_none goes19 rfl (fun w1 hp => heldFrame_c _ _ _ _ _ _ (hp.slsr 2 rfl (hsG0.marked _)) (by omega)) rfl ?_
              refine rl_val gw_none (ov_assign rfl) rfl ?_
              refine rl_nil ?_
              refine at_then ?_
              refine ct_seq ?_
              refine ct_seq ?_
              refine ct_reg ?_
              refine rl_val gw_none (ov_move rfl) rfl ?_
              refine rl_val gw_none (ov_lss rfl rfl) rfl ?_
              refine rl_nil ?_
              refine at_then ?_
              first | refine ct_dec rfl (fun h4 => ?_) (fun h4 => ?_) | refine ct_ndec rfl (fun h4 => ?_) (fun h4 => ?_) | refine ct_eq rfl (fun h4 => ?_) (fun h4 => ?_) | refine ct_ne rfl (fun h4 => ?_) (fun h4 => ?_) | refine ct_not rfl (fun h4 => ?_) (fun h4 => ?_) | refine ct_cond rfl (fun h4 => ?_) (fun h4 => ?_)
              ·
                exfalso; first | omega | exact absurd rfl h4 | (simp at h4; done) | (simp_all; done)
              ·
                refine ct_skip ?_
                refine at_then ?_
                refine ct_seq ?_
                refine ct_seq ?_
                refine ct_reg ?_
                refine rl_val gw_none (ov_move rfl) rfl ?_
                refine rl_val gw_none (ov_move rfl) rfl ?_
                refine rl_val gw_none (ov_neq rfl rfl) rfl ?_
                refine rl_nil ?_
                refine at_then ?_
                first | refine ct_dec rfl (fun h5 => ?_) (fun h5 => ?_) | refine ct_ndec rfl (fun h5 => ?_) (fun h5 => ?_) | refine ct_eq rfl (fun h5 => ?_) (fun h5 => ?_) | refine ct_ne rfl (fun h5 => ?_) (fun h5 => ?_) | refine ct_not rfl (fun h5 => ?_) (fun h5 => ?_) | refine ct_cond rfl (fun h5 => ?_) (fun h5 => ?_)
                ·
                  exfalso; first | omega | exact absurd rfl h5 | (simp at h5; done) | (simp_all; done)
                ·
                  refine ct_skip ?_
                  refine at_then ?_
                  refine ct_seq ?_
                  refine ct_reg ?_
                  first | refine rl_val gw_none (ov_loadall 7 ag30 rfl rfl rfl) rfl ?_ | refine rl_val gw_none (ov_loada 7 ag30 rfl rfl rfl (by assumption)) rfl ?_
                  refine rl_calle (ι := Nat) (fun q => .agg (List.toArray (α := Value) [.int .i64 u, .int .i64 l, .slice (some ⟨q, 0, none⟩) xs.length xs.length])) (fun q => [(some q, _, flat encIntA2 xs)]) (fun _ => True) goes22 rfl (fun w1 hp => toFrame_c u l xs _ _ zu zl hGxs (hsxs.ext hp.ext0) hbxs) rfl (fun qhxs _ => ?_)
                  refine rl_val gw_none (ov_move rfl) rfl ?_
                  refine rl_callsl (ι := Nat × List Value) (fun i bo => .tuple #[.agg [.int .i64 (quotR u l xs n).u, .int .i64 (quotR u l xs n).l, (sv bo ((quotR u l xs n).xs.length) i.1)].toArray, .int .i64 (quotM u l xs n), .bool (quotR u l xs n).ok]) (fun i => flat encIntA2 (quotR u l xs n).xs ++ i.2) (fun i bo => Sl 2 bo ((quotR u l xs n).xs.length) i.1 (flat encIntA2 (quotR u l xs n).xs) i.2) goes45 rfl (fun w1 hp => iQuotientOn_c u l xs n _ _ zu zl hGxs (hp.sr1 0 rfl (flat_length encIntA2_len _) hmxs) zn) rfl (fun iH0 boH0 hsH0 => ?_)
                  refine rl_val gw_none (ov_move rfl) rfl ?_
                  refine rl_val gw_none (ov_extract rfl rfl) rfl ?_
                  refine rl_val gw_none (ov_extract rfl rfl) rfl ?_
                  refine rl_val gw_none (ov_extract rfl rfl) rfl ?_
                  refine rl_alloc ze24 rfl (fun N5 => ?_)
                  refine rl_store [] sz24 rfl rfl rfl rfl rfl (Nat.le_of_ble_eq_true rfl) ?_
                  refine rl_val gw_none (ov_assign rfl) rfl ?_
                  refine rl_val gw_none (ov_assign rfl) rfl ?_
                  refine rl_nil ?_
                  refine at_then ?_
                  refine ct_seq ?_
                  refine ct_seq ?_
                  refine ct_reg ?_
                  first | refine rl_val gw_none (ov_loadall 0 ag24 rfl rfl rfl) rfl ?_ | refine rl_val gw_none (ov_loada 0 ag24 rfl rfl rfl (by assumption)) rfl ?_
                  first | refine rl_val gw_none (ov_loadall 7 ag24 rfl rfl rfl) rfl ?_ | refine rl_val gw_none (ov_loada 7 ag24 rfl rfl rfl (by assumption)) rfl ?_
                  refine rl_callv gw_none goes17 rfl (fun w1 hp => eqFrame_c _ _ (quotR u l xs n).xs _ _ _ (hp.slsr 1 rfl hsH0) (hp.slsr 8 rfl hsW0)) rfl ?_
                  refine rl_val gw_none (ov_not rfl) rfl ?_
                  refine rl_val gw_none (ov_move rfl) rfl ?_
                  refine rl_val (gw_some rfl rfl rfl) (ov_move rfl) rfl ?_
                  refine rl_val (gw_some rfl rfl rfl) (ov_move rfl) rfl ?_
                  refine rl_val (gw_some rfl rfl rfl) (ov_neq rfl rfl) rfl ?_
                  refine rl_val gw_none (ov_pick_f rfl rfl rfl) rfl ?_
                  refine rl_val gw_none (ov_move rfl) rfl ?_
                  refine rl_split (t := 109) rfl (fun g4 => ?_) (fun g4 => ?_)
                  ·
                    exfalso; first | (simp at g4; omega) | (simp at g4; done) | (simp_all; done)
                  ·
                    have g4' := g4
                    try simp only [Bool.not_eq_true', Bool.not_eq_false', Bool.not_not, decide_eq_true_eq, decide_eq_false_iff_not, beq_iff_eq, beq_eq_false_iff_ne, bne_iff_ne, bne_eq_false_iff_eq, Bool.and_eq_true, Bool.or_eq_true, Bool.and_eq_false_iff, Bool.or_eq_false_iff, inB] at g4'
                    refine rl_val (gw_some rfl rfl g4) (ov_move rfl) rfl ?_
                    refine rl_val (gw_some rfl rfl g4) (ov_move rfl) rfl ?_
                    refine rl_val (gw_some rfl rfl g4) (ov_neb Try.underlying4 rfl rfl) rfl ?_
                    refine rl_val gw_none (ov_pick_f rfl g4 rfl) rfl ?_
                    refine rl_nil ?_
                    refine at_then ?_
                    first | refine ct_dec rfl (fun h6 => ?_) (fun h6 => ?_) | refine ct_ndec rfl (fun h6 => ?_) (fun h6 => ?_) | refine ct_eq rfl (fun h6 => ?_) (fun h6 => ?_) | refine ct_ne rfl (fun h6 => ?_) (fun h6 => ?_) | refine ct_not rfl (fun h6 => ?_) (fun h6 => ?_) | refine ct_cond rfl (fun h6 => ?_) (fun h6 => ?_)
                    ·
                      exfalso; first | omega | exact absurd rfl h6 | (simp at h6; done) | (simp_all; done)
                    ·
                      refine ct_skip ?_
                      refine at_then ?_
                      refine ct_seq ?_
                      refine ct_reg ?_
                      refine rl_val gw_none (ov_assign rfl) rfl ?_
                      refine rl_nil ?_
                      refine at_then ?_
                      refine ct_seq ?_
                      refine ct_reg ?_
                      first | refine rl_val gw_none (ov_loadall 4 ag24 rfl rfl rfl) rfl ?_ | refine rl_val gw_none (ov_loada 4 ag24 rfl rfl rfl (by assumption)) rfl ?_
                      refine rl_val gw_none (ov_move rfl) rfl ?_
                      refine rl_callv gw_none goes19 rfl (fun w1 hp => heldFrame_c _ _ _ _ _ _ (hp.slsr 5 rfl (hsG0.marked _)) (by omega)) rfl ?_
                      refine rl_val gw_none (ov_assign rfl) rfl ?_
                      refine rl_nil ?_
                      refine at_then ?_
                      refine ct_seq ?_
                      refine ct_seq ?_
                      refine ct_reg ?_
                      refine rl_val gw_none (ov_move rfl) rfl ?_
                      refine rl_val gw_none (ov_lss rfl rfl) rfl ?_
                      refine rl_nil ?_
                      refine at_then ?_
                      first | refine ct_dec rfl (fun h7 => ?_) (fun h7 => ?_) | refine ct_ndec rfl (fun h7 => ?_) (fun h7 => ?_) | refine ct_eq rfl (fun h7 => ?_) (fun h7 => ?_) | refine ct_ne rfl (fun h7 => ?_) (fun h7 => ?_) | refine ct_not rfl (fun h7 => ?_) (fun h7 => ?_) | refine ct_cond rfl (fun h7 => ?_) (fun h7 => ?_)
                      ·
                        exfalso; first | omega | exact absurd rfl h7 | (simp at h7; done) | (simp_all; done)
                      ·
                        refine ct_skip ?_
                        refine at_then ?_
                        refine ct_seq ?_
                        refine ct_seq ?_
                        refine ct_reg ?_
                        refine rl_val gw_none (ov_move rfl) rfl ?_
                        refine rl_val gw_none (ov_move rfl) rfl ?_
                        refine rl_val gw_none (ov_neq rfl rfl) rfl ?_
                        refine rl_nil ?_
                        refine at_then ?_
                        first | refine ct_dec rfl (fun h8 => ?_) (fun h8 => ?_) | refine ct_ndec rfl (fun h8 => ?_) (fun h8 => ?_) | refine ct_eq rfl (fun h8 => ?_) (fun h8 => ?_) | refine ct_ne rfl (fun h8 => ?_) (fun h8 => ?_) | refine ct_not rfl (fun h8 => ?_) (fun h8 => ?_) | refine ct_cond rfl (fun h8 => ?_) (fun h8 => ?_)
                        ·
                          exfalso; first | omega | exact absurd rfl h8 | (simp at h8; done) | (simp_all; done)
                        ·
                          refine ct_skip ?_
                          refine at_then ?_
                          refine ct_seq ?_
                          refine ct_reg ?_
                          refine rl_val gw_none (ov_assign rfl) rfl ?_
                          refine rl_nil ?_
                          refine at_then ?_
                          refine ct_ret ?_
                          refine at_ret1 Try.results11 (ro_tmp rfl) (fun w1 hp => ?_)
                          exact ⟨rfl, hp.ext0⟩
end Go.Proofs.Ytaohanhgengicaa
