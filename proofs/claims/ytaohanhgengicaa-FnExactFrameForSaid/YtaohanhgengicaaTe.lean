import Derived.Test.YtaohanhgengicaaTd
import Derived.KernelRfl
set_option linter.unusedVariables false
set_option linter.unusedSimpArgs false
namespace Go.Proofs.Ytaohanhgengicaa
open Go Go.RowKit K
theorem law_FrameFor (u : Int) (l : Int) (rods : Int) (n : Int) (w : World) (zu : In64 u) (zl : In64 l) (zrods : In64 rods) (zn : In64 n) : Calls Try.prog 3 ([.int .i64 u, .int .i64 l, .int .i64 rods, .int .i64 n]).toArray w (fun e w' => e = .returned (.bool true) ∧ Ext w w') := by
  have hrl := frameForR_len u l rods n
  refine calls_ct Try.func3 Try.ntmps3 rfl rfl ?_
  refine ct_seq ?_
  refine ct_reg ?_
  refine rl_val gw_none (ov_assign rfl) rfl ?_
  refine rl_nil ?_
  refine at_then ?_
  refine ct_seq ?_
  refine ct_reg ?_
  refine rl_val gw_none (ov_move rfl) rfl ?_
  refine rl_val gw_none (ov_move rfl) rfl ?_
  refine rl_val gw_none (ov_move rfl) rfl ?_
  refine rl_val gw_none (ov_move rfl) rfl ?_
  refine rl_callsl (ι := Nat × List Value) (fun i bo => .tuple #[.agg [.int .i64 (frameForR u l rods n).u, .int .i64 (frameForR u l rods n).l, (sv bo ((frameForR u l rods n).xs.length) i.1)].toArray, .bool (frameForR u l rods n).ok]) (fun i => flat encIntA2 (frameForR u l rods n).xs ++ i.2) (fun i bo => Sl 2 bo ((frameForR u l rods n).xs.length) i.1 (flat encIntA2 (frameForR u l rods n).xs) i.2) goes15 rfl (fun w1 hp => sFrameFor_c u l rods n _ zu zl zrods zn) rfl (fun iW0 boW0 hsW0 => ?_)
  refine rl_val gw_none (ov_move rfl) rfl ?_
  refine rl_val gw_none (ov_extract rfl rfl) rfl ?_
  refine rl_val gw_none (ov_extract rfl rfl) rfl ?_
  refine rl_alloc ze24 rfl (fun N1 => ?_)
  refine rl_store [] sz24 rfl rfl rfl rfl rfl (Nat.le_of_ble_eq_true rfl) ?_
  refine rl_val gw_none (ov_assign rfl) rfl ?_
  refine rl_nil ?_
  refine at_then ?_
  refine ct_seq ?_
  refine ct_reg ?_
  refine rl_val gw_none (ov_move rfl) rfl ?_
  refine rl_val gw_none (ov_move rfl) rfl ?_
  refine rl_val gw_none (ov_move rfl) rfl ?_
  refine rl_val gw_none (ov_move rfl) rfl ?_
  refine rl_callsl (ι := Nat × List Value) (fun i bo => .tuple #[.agg [.int .i64 (frameForR u l rods n).u, .int .i64 (frameForR u l rods n).l, (sv bo ((frameForR u l rods n).xs.length) i.1)].toArray, .bool (frameForR u l rods n).ok]) (fun i => flat encIntA2 (frameForR u l rods n).xs ++ i.2) (fun i bo => Sl 2 bo ((frameForR u l rods n).xs.length) i.1 (flat encIntA2 (frameForR u l rods n).xs) i.2) goes16 rfl (fun w1 hp => iFrameFor_c u l rods n _ zu zl zrods zn) rfl (fun iG0 boG0 hsG0 => ?_)
  refine rl_val gw_none (ov_move rfl) rfl ?_
  refine rl_val gw_none (ov_extract rfl rfl) rfl ?_
  refine rl_val gw_none (ov_extract rfl rfl) rfl ?_
  refine rl_alloc ze24 rfl (fun N2 => ?_)
  refine rl_store [] sz24 rfl rfl rfl rfl rfl (Nat.le_of_ble_eq_true rfl) ?_
  refine rl_val gw_none (ov_assign rfl) rfl ?_
  refine rl_nil ?_
  refine at_then ?_
  refine ct_seq ?_
  refine ct_seq ?_
  refine ct_reg ?_
  first | refine rl_val gw_none (ov_loadall 0 ag24 rfl rfl rfl) rfl ?_ | refine rl_val gw_none (ov_loada 0 ag24 rfl rfl rfl (by assumption)) rfl ?_
  first | refine rl_val gw_none (ov_loadall 2 ag24 rfl rfl rfl) rfl ?_ | refine rl_val gw_none (ov_loada 2 ag24 rfl rfl rfl (by assumption)) rfl ?_
  refine rl_callv gw_none goes17 rfl (fun w1 hp => eqFrame_c _ _ (frameForR u l rods n).xs _ _ _ (hp.slsr 1 rfl hsG0) (hp.slsr 3 rfl hsW0)) rfl ?_
  refine rl_val gw_none (ov_not rfl) rfl ?_
  refine rl_val gw_none (ov_move rfl) rfl ?_
  refine rl_val (gw_some rfl rfl rfl) (ov_move rfl) rfl ?_
  refine rl_val (gw_some rfl rfl rfl) (ov_move rfl) rfl ?_
  refine rl_val (gw_some rfl rfl rfl) (ov_neb Try.underlying4 rfl rfl) rfl ?_
  refine rl_val gw_none (ov_pick_f rfl rfl rfl) rfl ?_
  refine rl_nil ?_
  refine at_then ?_
  first | refine ct_dec rfl (fun h1 => ?_) (fun h1 => ?_) | refine ct_ndec rfl (fun h1 => ?_) (fun h1 => ?_) | refine ct_eq rfl (fun h1 => ?_) (fun h1 => ?_) | refine ct_ne rfl (fun h1 => ?_) (fun h1 => ?_) | refine ct_not rfl (fun h1 => ?_) (fun h1 => ?_) | refine ct_cond rfl (fun h1 => ?_) (fun h1 => ?_)
  ·
    exfalso; first | omega | exact absurd rfl h1 | (simp at h1; done) | (simp_all; done)
  ·
    refine ct_skip ?_
    refine at_then ?_
    refine ct_seq ?_
    refine ct_reg ?_
    refine rl_val gw_none (ov_assign rfl) rfl ?_
    refine rl_nil ?_
    refine at_then ?_
    refine ct_seq ?_
    refine ct_reg ?_
    first | refine rl_val gw_none (ov_loadall 0 ag24 rfl rfl rfl) rfl ?_ | refine rl_val gw_none (ov_loada 0 ag24 rfl rfl rfl (by assumption)) rfl ?_
    refine rl_val gw_none (ov_move rfl) rfl ?_
    refine rl_callwo [_] goes18 rfl rfl (fun w1 hp => markFrame_o _ _ _ hsG0 _ (hp.atO 1 rfl) (by omega)) rfl ?_
    refine rl_val gw_none (ov_assign rfl) rfl ?_
    refine rl_nil ?_
    refine at_then ?_
    refine ct_seq ?_
    refine ct_reg ?_
    refine rl_val gw_none (ov_assign rfl) rfl ?_
    refine rl_nil ?_
    refine at_then ?_
    refine ct_seq ?_
    refine ct_reg ?_
    first | refine rl_val gw_none (ov_loadall 0 ag24 rfl rfl rfl) rfl ?_ | refine rl_val gw_none (ov_loada 0 ag24 rfl rfl rfl (by assumption)) rfl ?_
    refine rl_val gw_none (ov_move rfl) rfl ?_
    refine rl_callv gw_none goes19 rfl (fun w1 hp => heldFrame_c _ _ _ _ _ _ (hp.slsr 1 rfl (hsG0.marked _)) (by omega)) rfl ?_
    refine rl_val gw_none (ov_assign rfl) rfl ?_
    refine rl_nil ?_
    refine at_then ?_
    refine ct_seq ?_
    refine ct_seq ?_
    refine ct_reg ?_
    refine rl_val gw_none (ov_move rfl) rfl ?_
    refine rl_val gw_none (ov_lss rfl rfl) rfl ?_
    refine rl_nil ?_
    refine at_then ?_
    first | refine ct_dec rfl (fun h2 => ?_) (fun h2 => ?_) | refine ct_ndec rfl (fun h2 => ?_) (fun h2 => ?_) | refine ct_eq rfl (fun h2 => ?_) (fun h2 => ?_) | refine ct_ne rfl (fun h2 => ?_) (fun h2 => ?_) | refine ct_not rfl (fun h2 => ?_) (fun h2 => ?_) | refine ct_cond rfl (fun h2 => ?_) (fun h2 => ?_)
    ·
      exfalso; first | omega | exact absurd rfl h2 | (simp at h2; done) | (simp_all; done)
    ·
      refine ct_skip ?_
      refine at_then ?_
      refine ct_seq ?_
      refine ct_seq ?_
      refine ct_reg ?_
      refine rl_val gw_none (ov_move rfl) rfl ?_
      refine rl_val gw_none (ov_move rfl) rfl ?_
      refine rl_val gw_none (ov_neq rfl rfl) rfl ?_
      refine rl_nil ?_
      refine at_then ?_
      first | refine ct_dec rfl (fun h3 => ?_) (fun h3 => ?_) | refine ct_ndec rfl (fun h3 => ?_) (fun h3 => ?_) | refine ct_eq rfl (fun h3 => ?_) (fun h3 => ?_) | refine ct_ne rfl (fun h3 => ?_) (fun h3 => ?_) | refine ct_not rfl (fun h3 => ?_) (fun h3 => ?_) | refine ct_cond rfl (fun h3 => ?_) (fun h3 => ?_)
      ·
        exfalso; first | omega | exact absurd rfl h3 | (simp at h3; done) | (simp_all; done)
      ·
        refine ct_skip ?_
        refine at_then ?_
        refine ct_seq ?_
        refine ct_reg ?_
        refine rl_val gw_none (ov_move rfl) rfl ?_
        refine rl_val gw_none (ov_move rfl) rfl ?_
        refine rl_val gw_none (ov_move rfl) rfl ?_
        refine rl_val gw_none (ov_move rfl) rfl ?_
        refine rl_callsl (ι := Nat × List Value) (fun i bo => .tuple #[.agg [.int .i64 (frameForR u l rods n).u, .int .i64 (frameForR u l rods n).l, (sv bo ((frameForR u l rods n).xs.length) i.1)].toArray, .bool (frameForR u l rods n).ok]) (fun i => flat encIntA2 (frameForR u l rods n).xs ++ i.2) (fun i bo => Sl 2 bo ((frameForR u l rods n).xs.length) i.1 (flat encIntA2 (frameForR u l rods n).xs) i.2) goes16 rfl (fun w1 hp => iFrameFor_c u l rods n _ zu zl zrods zn) rfl (fun iH0 boH0 hsH0 => ?_)
        refine rl_val gw_none (ov_move rfl) rfl ?_
        refine rl_val gw_none (ov_extract rfl rfl) rfl ?_
        refine rl_val gw_none (ov_extract rfl rfl) rfl ?_
        refine rl_alloc ze24 rfl (fun N3 => ?_)
        refine rl_store [] sz24 rfl rfl rfl rfl rfl (Nat.le_of_ble_eq_true rfl) ?_
        refine rl_val gw_none (ov_assign rfl) rfl ?_
        refine rl_nil ?_
        refine at_then ?_
        refine ct_seq ?_
        refine ct_seq ?_
        refine ct_reg ?_
        first | refine rl_val gw_none (ov_loadall 0 ag24 rfl rfl rfl) rfl ?_ | refine rl_val gw_none (ov_loada 0 ag24 rfl rfl rfl (by assumption)) rfl ?_
        first | refine rl_val gw_none (ov_loadall 4 ag24 rfl rfl rfl) rfl ?_ | refine rl_val gw_none (ov_loada 4 ag24 rfl rfl rfl (by assumption)) rfl ?_
        refine rl_callv gw_none goes17 rfl (fun w1 hp => eqFrame_c _ _ (frameForR u l rods n).xs _ _ _ (hp.slsr 1 rfl hsH0) (hp.slsr 5 rfl hsW0)) rfl ?_
        refine rl_val gw_none (ov_not rfl) rfl ?_
        refine rl_val gw_none (ov_move rfl) rfl ?_
        refine rl_val (gw_some rfl rfl rfl) (ov_move rfl) rfl ?_
        refine rl_val (gw_some rfl rfl rfl) (ov_move rfl) rfl ?_
        refine rl_val (gw_some rfl rfl rfl) (ov_neb Try.underlying4 rfl rfl) rfl ?_
        refine rl_val gw_none (ov_pick_f rfl rfl rfl) rfl ?_
        refine rl_nil ?_
        refine at_then ?_
        first | refine ct_dec rfl (fun h4 => ?_) (fun h4 => ?_) | refine ct_ndec rfl (fun h4 => ?_) (fun h4 => ?_) | refine ct_eq rfl (fun h4 => ?_) (fun h4 => ?_) | refine ct_ne rfl (fun h4 => ?_) (fun h4 => ?_) | refine ct_not rfl (fun h4 => ?_) (fun h4 => ?_) | refine ct_cond rfl (fun h4 => ?_) (fun h4 => ?_)
        ·
          exfalso; first | omega | exact absurd rfl h4 | (simp at h4; done) | (simp_all; done)
        ·
          refine ct_skip ?_
          refine at_then ?_
          refine ct_seq ?_
          refine ct_reg ?_
          refine rl_val gw_none (ov_assign rfl) rfl ?_
          refine rl_nil ?_
          refine at_then ?_
          refine ct_seq ?_
          refine ct_reg ?_
          first | refine rl_val gw_none (ov_loadall 2 ag24 rfl rfl rfl) rfl ?_ | refine rl_val gw_none (ov_loada 2 ag24 rfl rfl rfl (by assumption)) rfl ?_
          refine rl_val gw_none (ov_move rfl) rfl ?_
          refine rl_callv gw_none goes19 rfl (fun w1 hp => heldFrame_c _ _ _ _ _ _ (hp.slsr 3 rfl (hsG0.marked _)) (by omega)) rfl ?_
          refine rl_val gw_none (ov_assign rfl) rfl ?_
          refine rl_nil ?_
          refine at_then ?_
          refine ct_seq ?_
          refine ct_seq ?_
          refine ct_reg ?_
          refine rl_val gw_none (ov_move rfl) rfl ?_
          refine rl_val gw_none (ov_lss rfl rfl) rfl ?_
          refine rl_nil ?_
          refine at_then ?_
          first | refine ct_dec rfl (fun h5 => ?_) (fun h5 => ?_) | refine ct_ndec rfl (fun h5 => ?_) (fun h5 => ?_) | refine ct_eq rfl (fun h5 => ?_) (fun h5 => ?_) | refine ct_ne rfl (fun h5 => ?_) (fun h5 => ?_) | refine ct_not rfl (fun h5 => ?_) (fun h5 => ?_) | refine ct_cond rfl (fun h5 => ?_) (fun h5 => ?_)
          ·
            exfalso; first | omega | exact absurd rfl h5 | (simp at h5; done) | (simp_all; done)
          ·
            refine ct_skip ?_
            refine at_then ?_
            refine ct_seq ?_
            refine ct_seq ?_
            refine ct_reg ?_
            refine rl_val gw_none (ov_move rfl) rfl ?_
            refine rl_val gw_none (ov_move rfl) rfl ?_
            refine rl_val gw_none (ov_neq rfl rfl) rfl ?_
            refine rl_nil ?_
            refine at_then ?_
            first | refine ct_dec rfl (fun h6 => ?_) (fun h6 => ?_) | refine ct_ndec rfl (fun h6 => ?_) (fun h6 => ?_) | refine ct_eq rfl (fun h6 => ?_) (fun h6 => ?_) | refine ct_ne rfl (fun h6 => ?_) (fun h6 => ?_) | refine ct_not rfl (fun h6 => ?_) (fun h6 => ?_) | refine ct_cond rfl (fun h6 => ?_) (fun h6 => ?_)
            ·
              exfalso; first | omega | exact absurd rfl h6 | (simp at h6; done) | (simp_all; done)
            ·
              refine ct_skip ?_
              refine at_then ?_
              refine ct_seq ?_
              refine ct_reg ?_
              refine rl_val gw_none (ov_assign rfl) rfl ?_
              refine rl_nil ?_
              refine at_then ?_
              refine ct_ret ?_
              refine at_ret1 Try.results3 (ro_tmp rfl) (fun w1 hp => ?_)
              exact ⟨rfl, hp.ext0⟩
end Go.Proofs.Ytaohanhgengicaa
