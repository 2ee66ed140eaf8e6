import Derived.Test.YtaohanhgengicaaTm
import Derived.KernelRfl
set_option linter.unusedVariables false
set_option linter.unusedSimpArgs false
namespace Go.Proofs.Ytaohanhgengicaa
open Go Go.RowKit K
theorem law_MoveBeads (u : Int) (l : Int) (xs : List IntA2) (rd : Int) (pt : Int) (nn : Int) (vxs : Value) (w : World) (zu : In64 u) (zl : In64 l) (hGxs : ∀ y ∈ xs, GIntA2 y) (hsxs : SR w 2 vxs xs.length (flat encIntA2 xs)) (zrd : In64 rd) (zpt : In64 pt) (znn : In64 nn) : Calls Try.prog 7 ([.agg (List.toArray (α := Value) [.int .i64 u, .int .i64 l, vxs]), .agg (List.toArray (α := Value) [.int .i64 rd, .int .i64 pt, .int .i64 nn])]).toArray w (fun e w' => e = .returned (.bool true) ∧ Ext w w') := by
  have hlenxs := hsxs.len_le
  have hrl : (moveR u l xs ⟨rd, pt, nn⟩).xs.length ≤ xs.length := okR_bd (fun _ => moveL_len _ _)
  refine calls_ct Try.func7 Try.ntmps7 rfl rfl ?_
  refine ct_seq ?_
  refine ct_reg ?_
  refine rl_box rfl rfl (fun N1 => ?_)
  refine rl_box rfl rfl (fun N2 => ?_)
  refine rl_val gw_none (ov_assign rfl) rfl ?_
  refine rl_nil ?_
  refine at_then ?_
  refine ct_seq ?_
  refine ct_reg ?_
  refine rl_val gw_none (ov_assign rfl) rfl ?_
  refine rl_nil ?_
  refine at_then ?_
  refine ct_seq ?_
  refine ct_reg ?_
  first | refine rl_val gw_none (ov_loadall 1 ag30 rfl rfl rfl) rfl ?_ | refine rl_val gw_none (ov_loadp 1 ag30 rfl rfl (vs := [_, _, _]) rfl rfl) rfl ?_ | refine rl_val gw_none (ov_loada 1 ag30 rfl rfl rfl (by assumption)) rfl ?_
  refine rl_val gw_none (ov_move rfl) rfl ?_
  refine rl_callx (ι := Int) (fun r => .int .i64 r) (fun r => r < 0 ∨ (0 ≤ r ∧ r ≤ 1048576 - xs.length)) gw_none goes20 rfl (fun w1 hp => szFrame_c 1048576 u l xs _ _ zu zl hGxs (hsxs.ext hp.ext0) (by omega)) rfl (fun rxs hrxs => ?_)
  refine rl_val gw_none (ov_assign rfl) rfl ?_
  refine rl_nil ?_
  refine at_then ?_
  refine ct_seq ?_
  refine ct_seq ?_
  refine ct_reg ?_
  refine rl_val gw_none (ov_move rfl) rfl ?_
  refine rl_val gw_none (ov_lss rfl rfl) rfl ?_
  refine rl_nil ?_
  refine at_then ?_
  first | refine ct_dec rfl (fun h1 => ?_) (fun h1 => ?_) | refine ct_ndec rfl (fun h1 => ?_) (fun h1 => ?_) | refine ct_eq rfl (fun h1 => ?_) (fun h1 => ?_) | refine ct_ne rfl (fun h1 => ?_) (fun h1 => ?_) | refine ct_not rfl (fun h1 => ?_) (fun h1 => ?_) | refine ct_cond rfl (fun h1 => ?_) (fun h1 => ?_)
  ·
    refine ct_seq ?_
    refine ct_reg ?_
    refine rl_val gw_none (ov_assign rfl) rfl ?_
    refine rl_nil ?_
    refine at_then ?_
    refine ct_ret ?_
    refine at_then_ret ?_
    refine at_ret1 Try.results7 (ro_tmp rfl) (fun w1 hp => ?_)
    exact ⟨rfl, hp.ext0⟩
  ·
    have hbxs : xs.length ≤ 1048576 := by omega
    have hmxs : xs.length ≤ maxLen := by unfold maxLen; omega
    refine ct_skip ?_
    refine at_then ?_
    refine ct_seq ?_
    refine ct_fl 10 [0, 2, 1, 3, 4, 5, 6, 7, 8, 9, 10] ⟨2, [2, 4, 9], [9], [8], [0, 1, 3], []⟩ (fun q => if q = 8 then (⟨24, [.int .i64 0, .int .i64 0, .slice none 0 0], fun N => .pointer (some ⟨N, 0, none⟩)⟩ : Soft) else ⟨0, [], fun _ => undef⟩) (by kernel_rfl) (by kernel_rfl) ?_
    refine qf_step rfl ?_
    first | refine qg_valm rfl rfl gw_none (ov_loadall 1 ag30 rfl rfl rfl) rfl ?_ | refine qg_valm rfl rfl gw_none (ov_loadp 1 ag30 rfl rfl (vs := [_, _, _]) rfl rfl) rfl ?_ | refine qg_valm rfl rfl gw_none (ov_loada 1 ag30 rfl rfl rfl (by assumption)) rfl ?_
    refine qf_step rfl ?_
    first | refine qg_valm rfl rfl gw_none (ov_loadall 0 ag38 rfl rfl rfl) rfl ?_ | refine qg_valm rfl rfl gw_none (ov_loadp 0 ag38 rfl rfl (vs := [_, _, _]) rfl rfl) rfl ?_ | refine qg_valm rfl rfl gw_none (ov_loada 0 ag38 rfl rfl rfl (by assumption)) rfl ?_
    refine qf_mark ⟨⟨6, rfl, soft_alloc rfl rfl ze24⟩, True.intro⟩ ?_
    refine qg_calle (ι := Nat) (fun q => .agg (List.toArray (α := Value) [.int .i64 u, .int .i64 l, .slice (some ⟨q, 0, none⟩) xs.length xs.length])) (fun q => [(some q, _, flat encIntA2 xs)]) (fun _ => True) rfl rfl rfl goes22 rfl (fun w1 hp => toFrame_c u l xs _ _ zu zl hGxs (hsxs.ext hp.ext0) hbxs) rfl (fun qwxs _ => ?_)
    refine qf_step rfl ?_
    refine qg_callv rfl rfl gw_none goes29 rfl (fun w1 hp => toBeadMove_c ⟨rd, pt, nn⟩ _) rfl ?_
    refine qf_step rfl ?_
    refine qg_callsl (ι := Nat × List Value) (fun i bo => .tuple #[.agg [.int .i64 (moveR u l xs ⟨rd, pt, nn⟩).u, .int .i64 (moveR u l xs ⟨rd, pt, nn⟩).l, (sv bo ((moveR u l xs ⟨rd, pt, nn⟩).xs.length) i.1)].toArray, .bool (moveR u l xs ⟨rd, pt, nn⟩).ok]) (fun i => flat encIntA2 (moveR u l xs ⟨rd, pt, nn⟩).xs ++ i.2) (fun i bo => Sl 2 bo ((moveR u l xs ⟨rd, pt, nn⟩).xs.length) i.1 (flat encIntA2 (moveR u l xs ⟨rd, pt, nn⟩).xs) i.2) rfl rfl rfl goes28 rfl (fun w1 hp => sMoveBeads_c u l xs rd pt nn _ _ zu zl hGxs (hp.sr1 0 rfl (flat_length encIntA2_len _) hmxs) zrd zpt znn) rfl (fun iW0 boW0 hsW0 => ?_)
    refine qf_step rfl ?_
    refine qg_val rfl gw_none (fun _ => (ov_move rfl)) rfl ?_
    refine qf_step rfl ?_
    refine qg_val rfl gw_none (fun _ => (ov_extract rfl rfl)) rfl ?_
    refine qf_step rfl ?_
    refine qg_val rfl gw_none (fun _ => (ov_extract rfl rfl)) rfl ?_
    refine qf_step rfl ?_
    refine qg_soft rfl rfl rfl (fun N3 => ?_)
    refine qf_step rfl ?_
    refine qg_store [] rfl rfl rfl True.intro sz24 rfl rfl rfl rfl rfl (Nat.le_of_ble_eq_true rfl) ?_
    refine qf_nil ?_
    refine rl_val gw_none (ov_assign rfl) rfl ?_
    refine rl_nil ?_
    refine at_then ?_
    refine ct_seq ?_
    refine ct_reg ?_
    first | refine rl_val gw_none (ov_loadall 4 ag30 rfl rfl rfl) rfl ?_ | refine rl_val gw_none (ov_loadp 4 ag30 rfl rfl (vs := [_, _, _]) rfl rfl) rfl ?_ | refine rl_val gw_none (ov_loada 4 ag30 rfl rfl rfl (by assumption)) rfl ?_
    refine rl_calle (ι := Nat) (fun q => .agg (List.toArray (α := Value) [.int .i64 u, .int .i64 l, .slice (some ⟨q, 0, none⟩) xs.length xs.length])) (fun q => [(some q, _, flat encIntA2 xs)]) (fun _ => True) goes22 rfl (fun w1 hp => toFrame_c u l xs _ _ zu zl hGxs (hsxs.ext hp.ext0) hbxs) rfl (fun qxxs _ => ?_)
    refine rl_alloc ze24 rfl (fun N4 => ?_)
    refine rl_store [] sz24 rfl rfl rfl rfl rfl (Nat.le_of_ble_eq_true rfl) ?_
    refine rl_nil ?_
    refine at_then ?_
    refine ct_seq ?_
    refine ct_fl 9 [0, 1, 2, 3, 4, 5, 6, 7, 8, 9] ⟨3, [3, 8], [8], [7], [0, 1, 2], []⟩ (fun q => if q = 7 then (⟨24, [.int .i64 0, .int .i64 0, .slice none 0 0], fun N => .pointer (some ⟨N, 0, none⟩)⟩ : Soft) else ⟨0, [], fun _ => undef⟩) (by kernel_rfl) (by kernel_rfl) ?_
    refine qf_step rfl ?_
    first | refine qg_valm rfl rfl gw_none (ov_loadall 0 ag24 rfl rfl rfl) rfl ?_ | refine qg_valm rfl rfl gw_none (ov_loadp 0 ag24 rfl rfl (vs := [_, _, _]) rfl rfl) rfl ?_ | refine qg_valm rfl rfl gw_none (ov_loada 0 ag24 rfl rfl rfl (by assumption)) rfl ?_
    refine qf_step rfl ?_
    first | refine qg_valm rfl rfl gw_none (ov_loadall 5 ag38 rfl rfl rfl) rfl ?_ | refine qg_valm rfl rfl gw_none (ov_loadp 5 ag38 rfl rfl (vs := [_, _, _]) rfl rfl) rfl ?_ | refine qg_valm rfl rfl gw_none (ov_loada 5 ag38 rfl rfl rfl (by assumption)) rfl ?_
    refine qf_step rfl ?_
    refine qg_callv rfl rfl gw_none goes29 rfl (fun w1 hp => toBeadMove_c ⟨rd, pt, nn⟩ _) rfl ?_
    refine qf_mark ⟨⟨4, rfl, soft_alloc rfl rfl ze24⟩, True.intro⟩ ?_
    refine qg_callsl (ι := Nat × List Value) (fun i bo => .tuple #[.agg [.int .i64 (moveR u l xs ⟨rd, pt, nn⟩).u, .int .i64 (moveR u l xs ⟨rd, pt, nn⟩).l, (sv bo ((moveR u l xs ⟨rd, pt, nn⟩).xs.length) i.1)].toArray, .bool (moveR u l xs ⟨rd, pt, nn⟩).ok]) (fun i => flat encIntA2 (moveR u l xs ⟨rd, pt, nn⟩).xs ++ i.2) (fun i bo => Sl 2 bo ((moveR u l xs ⟨rd, pt, nn⟩).xs.length) i.1 (flat encIntA2 (moveR u l xs ⟨rd, pt, nn⟩).xs) i.2) rfl rfl rfl goes30 rfl (fun w1 hp => iMoveBeads_c u l xs rd pt nn _ _ zu zl hGxs (hp.sr1 1 rfl (flat_length encIntA2_len _) hmxs) zrd zpt znn) rfl (fun iG0 boG0 hsG0 => ?_)
    refine qf_step rfl ?_
    refine qg_val rfl gw_none (fun _ => (ov_move rfl)) rfl ?_
    refine qf_step rfl ?_
    refine qg_val rfl gw_none (fun _ => (ov_extract rfl rfl)) rfl ?_
    refine qf_step rfl ?_
    refine qg_val rfl gw_none (fun _ => (ov_extract rfl rfl)) rfl ?_
    refine qf_step rfl ?_
    refine qg_soft rfl rfl rfl (fun N5 => ?_)
    refine qf_step rfl ?_
    refine qg_store [] rfl rfl rfl True.intro sz24 rfl rfl rfl rfl rfl (Nat.le_of_ble_eq_true rfl) ?_
    refine qf_nil ?_
    refine rl_val gw_none (ov_assign rfl) rfl ?_
    refine rl_nil ?_
    refine at_then ?_
    refine ct_seq ?_
    refine ct_seq ?_
    refine ct_reg ?_
    first | refine rl_val gw_none (ov_loadall 0 ag24 rfl rfl rfl) rfl ?_ | refine rl_val gw_none (ov_loadp 0 ag24 rfl rfl (vs := [_, _, _]) rfl rfl) rfl ?_ | refine rl_val gw_none (ov_loada 0 ag24 rfl rfl rfl (by assumption)) rfl ?_
    first | refine rl_val gw_none (ov_loadall 4 ag24 rfl rfl rfl) rfl ?_ | refine rl_val gw_none (ov_loadp 4 ag24 rfl rfl (vs := [_, _, _]) rfl rfl) rfl ?_ | refine rl_val gw_none (ov_loada 4 ag24 rfl rfl rfl (by assumption)) rfl ?_
    refine rl_callv gw_none goes17 rfl (fun w1 hp => eqFrame_c _ _ (moveR u l xs ⟨rd, pt, nn⟩).xs _ _ _ (hp.slsr 1 rfl hsG0) (hp.slsr 5 rfl hsW0)) rfl ?_
    refine rl_val gw_none (ov_not rfl) rfl ?_
    refine rl_val gw_none (ov_move rfl) rfl ?_
    refine rl_val (gw_some rfl rfl rfl) (ov_move rfl) rfl ?_
    refine rl_val (gw_some rfl rfl rfl) (ov_move rfl) rfl ?_
    refine rl_val (gw_some rfl rfl rfl) (ov_neb Try.underlying4 rfl rfl) rfl ?_
    refine rl_val gw_none (ov_pick_f rfl rfl rfl) rfl ?_
    refine rl_nil ?_
    refine at_then ?_
    first | refine ct_dec rfl (fun h2 => ?_) (fun h2 => ?_) | refine ct_ndec rfl (fun h2 => ?_) (fun h2 => ?_) | refine ct_eq rfl (fun h2 => ?_) (fun h2 => ?_) | refine ct_ne rfl (fun h2 => ?_) (fun h2 => ?_) | refine ct_not rfl (fun h2 => ?_) (fun h2 => ?_) | refine ct_cond rfl (fun h2 => ?_) (fun h2 => ?_)
    ·
      exfalso; first | omega | exact absurd rfl h2 | (simp at h2; done) | (simp_all; done)
    ·
      refine ct_skip ?_
      refine at_then ?_
      refine ct_seq ?_
      refine ct_seq ?_
      refine ct_dre 3 [0, 1, 2, 3, 4] [2] (by kernel_rfl) (by kernel_rfl) ?_
      first | refine qe_val rfl gw_none (ov_loadall 2 ag24 rfl rfl rfl) rfl ?_ | refine qe_val rfl gw_none (ov_loadp 2 ag24 rfl rfl (vs := [_, _, _]) rfl rfl) rfl ?_ | refine qe_val rfl gw_none (ov_loada 2 ag24 rfl rfl rfl (by assumption)) rfl ?_
      first | refine qe_val rfl gw_none (ov_loadall 8 ag30 rfl rfl rfl) rfl ?_ | refine qe_val rfl gw_none (ov_loadp 8 ag30 rfl rfl (vs := [_, _, _]) rfl rfl) rfl ?_ | refine qe_val rfl gw_none (ov_loada 8 ag30 rfl rfl rfl (by assumption)) rfl ?_
      refine qe_calle (ι := Nat) (fun q => .agg (List.toArray (α := Value) [.int .i64 u, .int .i64 l, .slice (some ⟨q, 0, none⟩) xs.length xs.length])) (fun q => [(some q, _, flat encIntA2 xs)]) (fun _ => True) rfl goes22 rfl (fun w1 hp => toFrame_c u l xs _ _ zu zl hGxs (hsxs.ext hp.ext0) hbxs) rfl (fun qcxs _ => ?_)
      refine qe_nil ?_
      refine rl_callv gw_none goes17 rfl (fun w1 hp => eqFrame_c u l xs _ _ _  (hp.sr1 4 rfl (flat_length encIntA2_len _) hmxs) (hp.sr1 0 rfl (flat_length encIntA2_len _) hmxs)) rfl ?_
      refine rl_val gw_none (ov_not rfl) rfl ?_
      refine rl_nil ?_
      refine at_then ?_
      refine ct_false rfl rfl ?_
      refine ct_skip ?_
      refine at_then ?_
      refine ct_seq ?_
      refine ct_reg ?_
      refine rl_val gw_none (ov_assign rfl) rfl ?_
      refine rl_nil ?_
      refine at_then ?_
      refine ct_seq ?_
      refine ct_reg ?_
      first | refine rl_val gw_none (ov_loadall 3 ag24 rfl rfl rfl) rfl ?_ | refine rl_val gw_none (ov_loadp 3 ag24 rfl rfl (vs := [_, _, _]) rfl rfl) rfl ?_ | refine rl_val gw_none (ov_loada 3 ag24 rfl rfl rfl (by assumption)) rfl ?_
      refine rl_val gw_none (ov_move rfl) rfl ?_
      refine rl_callm [_, _, _, _] goes18 rfl rfl (fun w1 hp => markFrame_m _ _ _ _ _ _ _ _ (hp.at (i := 4) rfl) (flat_length encIntA2_len _) (by omega)) rfl ?_
      refine rl_val gw_none (ov_assign rfl) rfl ?_
      refine rl_nil ?_
      refine at_then ?_
      refine ct_seq ?_
      refine ct_seq ?_
      refine ct_reg ?_
      refine rl_val gw_none (ov_move rfl) rfl ?_
      refine rl_val gw_none (ov_lss rfl rfl) rfl ?_
      refine rl_val gw_none (ov_move rfl) rfl ?_
      refine rl_split (t := 57) rfl (fun g1 => ?_) (fun g1 => ?_)
      ·
        exfalso; first | (simp at g1; omega) | (simp at g1; done) | (simp_all; done)
      ·
        have g1' := g1
        try simp only [Bool.not_eq_true', Bool.not_eq_false', Bool.not_not, decide_eq_true_eq, decide_eq_false_iff_not, beq_iff_eq, beq_eq_false_iff_ne, bne_iff_ne, bne_eq_false_iff_eq, Bool.and_eq_true, Bool.or_eq_true, Bool.and_eq_false_iff, Bool.or_eq_false_iff, inB] at g1'
        first | refine rl_val (gw_some rfl rfl g1) (ov_loadall 1 ag24 rfl rfl rfl) rfl ?_ | refine rl_val (gw_some rfl rfl g1) (ov_loadp 1 ag24 rfl rfl (vs := [_, _, _]) rfl rfl) rfl ?_ | refine rl_val (gw_some rfl rfl g1) (ov_loada 1 ag24 rfl rfl rfl (by assumption)) rfl ?_
        first | refine rl_val (gw_some rfl rfl g1) (ov_loadall 4 ag24 rfl rfl rfl) rfl ?_ | refine rl_val (gw_some rfl rfl g1) (ov_loadp 4 ag24 rfl rfl (vs := [_, _, _]) rfl rfl) rfl ?_ | refine rl_val (gw_some rfl rfl g1) (ov_loada 4 ag24 rfl rfl rfl (by assumption)) rfl ?_
        refine rl_callv (gw_some rfl rfl g1) goes17 rfl (fun w1 hp => eqFrame_c _ _ (moveR u l xs ⟨rd, pt, nn⟩).xs _ _ _ (hp.slsr 2 rfl hsG0) (hp.slsr 5 rfl hsW0)) rfl ?_
        refine rl_val (gw_some rfl rfl g1) (ov_not rfl) rfl ?_
        refine rl_val gw_none (ov_pick_f rfl g1 rfl) rfl ?_
        refine rl_val gw_none (ov_move rfl) rfl ?_
        refine rl_val (gw_some rfl rfl rfl) (ov_move rfl) rfl ?_
        refine rl_val (gw_some rfl rfl rfl) (ov_move rfl) rfl ?_
        refine rl_val (gw_some rfl rfl rfl) (ov_neb Try.underlying4 rfl rfl) rfl ?_
        refine rl_val gw_none (ov_pick_f rfl rfl rfl) rfl ?_
        refine rl_nil ?_
        refine at_then ?_
        first | refine ct_dec rfl (fun h3 => ?_) (fun h3 => ?_) | refine ct_ndec rfl (fun h3 => ?_) (fun h3 => ?_) | refine ct_eq rfl (fun h3 => ?_) (fun h3 => ?_) | refine ct_ne rfl (fun h3 => ?_) (fun h3 => ?_) | refine ct_not rfl (fun h3 => ?_) (fun h3 => ?_) | refine ct_cond rfl (fun h3 => ?_) (fun h3 => ?_)
        ·
          exfalso; first | omega | exact absurd rfl h3 | (simp at h3; done) | (simp_all; done)
        ·
          refine ct_skip ?_
          refine at_then ?_
          refine ct_seq ?_
          refine ct_reg ?_
          refine rl_val gw_none (ov_assign rfl) rfl ?_
          refine rl_nil ?_
          refine at_then ?_
          refine ct_seq ?_
          refine ct_reg ?_
          first | refine rl_val gw_none (ov_loadall 1 ag24 rfl rfl rfl) rfl ?_ | refine rl_val gw_none (ov_loadp 1 ag24 rfl rfl (vs := [_, _, _]) rfl rfl) rfl ?_ | refine rl_val gw_none (ov_loada 1 ag24 rfl rfl rfl (by assumption)) rfl ?_
          refine rl_val gw_none (ov_move rfl) rfl ?_
          refine rl_callwo [_, _] goes18 rfl rfl (fun w1 hp => markFrame_o _ _ _ hsG0 _ (hp.atO 2 rfl) (by omega)) rfl ?_
          refine rl_val gw_none (ov_assign rfl) rfl ?_
          refine rl_nil ?_
          refine at_then ?_
          refine ct_seq ?_
          refine ct_reg ?_
          refine rl_val gw_none (ov_assign rfl) rfl ?_
          refine rl_nil ?_
          refine at_then ?_
          refine ct_seq ?_
          refine ct_reg ?_
          first | refine rl_val gw_none (ov_loadall 1 ag24 rfl rfl rfl) rfl ?_ | refine rl_val gw_none (ov_loadp 1 ag24 rfl rfl (vs := [_, _, _]) rfl rfl) rfl ?_ | refine rl_val gw_none (ov_loada 1 ag24 rfl rfl rfl (by assumption)) rfl ?_
          refine rl_val gw_none (ov_move rfl) rfl ?_
          refine rl_callv gw_none goes19 rfl (fun w1 hp => heldFrame_c _ _ _ _ _ _ (hp.slsr 2 rfl (hsG0.marked _)) (by omega)) rfl ?_
          refine rl_val gw_none (ov_assign rfl) rfl ?_
          refine rl_nil ?_
          refine at_then ?_
          refine ct_seq ?_
          refine ct_seq ?_
          refine ct_reg ?_
          refine rl_val gw_none (ov_move rfl) rfl ?_
          refine rl_val gw_none (ov_lss rfl rfl) rfl ?_
          refine rl_nil ?_
          refine at_then ?_
          first | refine ct_dec rfl (fun h4 => ?_) (fun h4 => ?_) | refine ct_ndec rfl (fun h4 => ?_) (fun h4 => ?_) | refine ct_eq rfl (fun h4 => ?_) (fun h4 => ?_) | refine ct_ne rfl (fun h4 => ?_) (fun h4 => ?_) | refine ct_not rfl (fun h4 => ?_) (fun h4 => ?_) | refine ct_cond rfl (fun h4 => ?_) (fun h4 => ?_)
          ·
            exfalso; first | omega | exact absurd rfl h4 | (simp at h4; done) | (simp_all; done)
          ·
            refine ct_skip ?_
            refine at_then ?_
            refine ct_seq ?_
            refine ct_seq ?_
            refine ct_reg ?_
            refine rl_val gw_none (ov_move rfl) rfl ?_
            refine rl_val gw_none (ov_move rfl) rfl ?_
            refine rl_val gw_none (ov_neq rfl rfl) rfl ?_
            refine rl_nil ?_
            refine at_then ?_
            first | refine ct_dec rfl (fun h5 => ?_) (fun h5 => ?_) | refine ct_ndec rfl (fun h5 => ?_) (fun h5 => ?_) | refine ct_eq rfl (fun h5 => ?_) (fun h5 => ?_) | refine ct_ne rfl (fun h5 => ?_) (fun h5 => ?_) | refine ct_not rfl (fun h5 => ?_) (fun h5 => ?_) | refine ct_cond rfl (fun h5 => ?_) (fun h5 => ?_)
            ·
              exfalso; first | omega | exact absurd rfl h5 | (simp at h5; done) | (simp_all; done)
            ·
              refine ct_skip ?_
              refine at_then ?_
              refine ct_seq ?_
              refine ct_fl 10 [0, 2, 1, 3, 4, 5, 6, 7, 8, 9, 10] ⟨2, [2, 4, 9], [9], [8], [0, 1, 3], []⟩ (fun q => if q = 8 then (⟨24, [.int .i64 0, .int .i64 0, .slice none 0 0], fun N => .pointer (some ⟨N, 0, none⟩)⟩ : Soft) else ⟨0, [], fun _ => undef⟩) (by kernel_rfl) (by kernel_rfl) ?_
              refine qf_step rfl ?_
              first | refine qg_valm rfl rfl gw_none (ov_loadall 8 ag30 rfl rfl rfl) rfl ?_ | refine qg_valm rfl rfl gw_none (ov_loadp 8 ag30 rfl rfl (vs := [_, _, _]) rfl rfl) rfl ?_ | refine qg_valm rfl rfl gw_none (ov_loada 8 ag30 rfl rfl rfl (by assumption)) rfl ?_
              refine qf_step rfl ?_
              first | refine qg_valm rfl rfl gw_none (ov_loadall 7 ag38 rfl rfl rfl) rfl ?_ | refine qg_valm rfl rfl gw_none (ov_loadp 7 ag38 rfl rfl (vs := [_, _, _]) rfl rfl) rfl ?_ | refine qg_valm rfl rfl gw_none (ov_loada 7 ag38 rfl rfl rfl (by assumption)) rfl ?_
              refine qf_mark ⟨⟨6, rfl, soft_alloc rfl rfl ze24⟩, True.intro⟩ ?_
              refine qg_calle (ι := Nat) (fun q => .agg (List.toArray (α := Value) [.int .i64 u, .int .i64 l, .slice (some ⟨q, 0, none⟩) xs.length xs.length])) (fun q => [(some q, _, flat encIntA2 xs)]) (fun _ => True) rfl rfl rfl goes22 rfl (fun w1 hp => toFrame_c u l xs _ _ zu zl hGxs (hsxs.ext hp.ext0) hbxs) rfl (fun qhxs _ => ?_)
              refine qf_step rfl ?_
              refine qg_callv rfl rfl gw_none goes29 rfl (fun w1 hp => toBeadMove_c ⟨rd, pt, nn⟩ _) rfl ?_
              refine qf_step rfl ?_
              refine qg_callsl (ι := Nat × List Value) (fun i bo => .tuple #[.agg [.int .i64 (moveR u l xs ⟨rd, pt, nn⟩).u, .int .i64 (moveR u l xs ⟨rd, pt, nn⟩).l, (sv bo ((moveR u l xs ⟨rd, pt, nn⟩).xs.length) i.1)].toArray, .bool (moveR u l xs ⟨rd, pt, nn⟩).ok]) (fun i => flat encIntA2 (moveR u l xs ⟨rd, pt, nn⟩).xs ++ i.2) (fun i bo => Sl 2 bo ((moveR u l xs ⟨rd, pt, nn⟩).xs.length) i.1 (flat encIntA2 (moveR u l xs ⟨rd, pt, nn⟩).xs) i.2) rfl rfl rfl goes30 rfl (fun w1 hp => iMoveBeads_c u l xs rd pt nn _ _ zu zl hGxs (hp.sr1 0 rfl (flat_length encIntA2_len _) hmxs) zrd zpt znn) rfl (fun iH0 boH0 hsH0 => ?_)
              refine qf_step rfl ?_
              refine qg_val rfl gw_none (fun _ => (ov_move rfl)) rfl ?_
              refine qf_step rfl ?_
              refine qg_val rfl gw_none (fun _ => (ov_extract rfl rfl)) rfl ?_
              refine qf_step rfl ?_
              refine qg_val rfl gw_none (fun _ => (ov_extract rfl rfl)) rfl ?_
              refine qf_step rfl ?_
              refine qg_soft rfl rfl rfl (fun N6 => ?_)
              refine qf_step rfl ?_
              refine qg_store [] rfl rfl rfl True.intro sz24 rfl rfl rfl rfl rfl (Nat.le_of_ble_eq_true rfl) ?_
              refine qf_nil ?_
              refine rl_val gw_none (ov_assign rfl) rfl ?_
              refine rl_nil ?_
              refine at_then ?_
              refine ct_seq ?_
              refine ct_seq ?_
              refine ct_reg ?_
              first | refine rl_val gw_none (ov_loadall 0 ag24 rfl rfl rfl) rfl ?_ | refine rl_val gw_none (ov_loadp 0 ag24 rfl rfl (vs := [_, _, _]) rfl rfl) rfl ?_ | refine rl_val gw_none (ov_loada 0 ag24 rfl rfl rfl (by assumption)) rfl ?_
              first | refine rl_val gw_none (ov_loadall 7 ag24 rfl rfl rfl) rfl ?_ | refine rl_val gw_none (ov_loadp 7 ag24 rfl rfl (vs := [_, _, _]) rfl rfl) rfl ?_ | refine rl_val gw_none (ov_loada 7 ag24 rfl rfl rfl (by assumption)) rfl ?_
              refine rl_callv gw_none goes17 rfl (fun w1 hp => eqFrame_c _ _ (moveR u l xs ⟨rd, pt, nn⟩).xs _ _ _ (hp.slsr 1 rfl hsH0) (hp.slsr 8 rfl hsW0)) rfl ?_
              refine rl_val gw_none (ov_not rfl) rfl ?_
              refine rl_val gw_none (ov_move rfl) rfl ?_
              refine rl_val (gw_some rfl rfl rfl) (ov_move rfl) rfl ?_
              refine rl_val (gw_some rfl rfl rfl) (ov_move rfl) rfl ?_
              refine rl_val (gw_some rfl rfl rfl) (ov_neb Try.underlying4 rfl rfl) rfl ?_
              refine rl_val gw_none (ov_pick_f rfl rfl rfl) rfl ?_
              refine rl_nil ?_
              refine at_then ?_
              first | refine ct_dec rfl (fun h6 => ?_) (fun h6 => ?_) | refine ct_ndec rfl (fun h6 => ?_) (fun h6 => ?_) | refine ct_eq rfl (fun h6 => ?_) (fun h6 => ?_) | refine ct_ne rfl (fun h6 => ?_) (fun h6 => ?_) | refine ct_not rfl (fun h6 => ?_) (fun h6 => ?_) | refine ct_cond rfl (fun h6 => ?_) (fun h6 => ?_)
              ·
                exfalso; first | omega | exact absurd rfl h6 | (simp at h6; done) | (simp_all; done)
              ·
                refine ct_skip ?_
                refine at_then ?_
                refine ct_seq ?_
                refine ct_reg ?_
                refine rl_val gw_none (ov_assign rfl) rfl ?_
                refine rl_nil ?_
                refine at_then ?_
                refine ct_seq ?_
                refine ct_reg ?_
                first | refine rl_val gw_none (ov_loadall 4 ag24 rfl rfl rfl) rfl ?_ | refine rl_val gw_none (ov_loadp 4 ag24 rfl rfl (vs := [_, _, _]) rfl rfl) rfl ?_ | refine rl_val gw_none (ov_loada 4 ag24 rfl rfl rfl (by assumption)) rfl ?_
                refine rl_val gw_none (ov_move rfl) rfl ?_
                refine rl_callv gw_none goes19 rfl (fun w1 hp => heldFrame_c _ _ _ _ _ _ (hp.slsr 5 rfl (hsG0.marked _)) (by omega)) rfl ?_
                refine rl_val gw_none (ov_assign rfl) rfl ?_
                refine rl_nil ?_
                refine at_then ?_
                refine ct_seq ?_
                refine ct_seq ?_
                refine ct_reg ?_
                refine rl_val gw_none (ov_move rfl) rfl ?_
                refine rl_val gw_none (ov_lss rfl rfl) rfl ?_
                refine rl_nil ?_
                refine at_then ?_
                first | refine ct_dec rfl (fun h7 => ?_) (fun h7 => ?_) | refine ct_ndec rfl (fun h7 => ?_) (fun h7 => ?_) | refine ct_eq rfl (fun h7 => ?_) (fun h7 => ?_) | refine ct_ne rfl (fun h7 => ?_) (fun h7 => ?_) | refine ct_not rfl (fun h7 => ?_) (fun h7 => ?_) | refine ct_cond rfl (fun h7 => ?_) (fun h7 => ?_)
                ·
                  exfalso; first | omega | exact absurd rfl h7 | (simp at h7; done) | (simp_all; done)
                ·
                  refine ct_skip ?_
                  refine at_then ?_
                  refine ct_seq ?_
                  refine ct_seq ?_
                  refine ct_reg ?_
                  refine rl_val gw_none (ov_move rfl) rfl ?_
                  refine rl_val gw_none (ov_move rfl) rfl ?_
                  refine rl_val gw_none (ov_neq rfl rfl) rfl ?_
                  refine rl_nil ?_
                  refine at_then ?_
                  first | refine ct_dec rfl (fun h8 => ?_) (fun h8 => ?_) | refine ct_ndec rfl (fun h8 => ?_) (fun h8 => ?_) | refine ct_eq rfl (fun h8 => ?_) (fun h8 => ?_) | refine ct_ne rfl (fun h8 => ?_) (fun h8 => ?_) | refine ct_not rfl (fun h8 => ?_) (fun h8 => ?_) | refine ct_cond rfl (fun h8 => ?_) (fun h8 => ?_)
                  ·
                    exfalso; first | omega | exact absurd rfl h8 | (simp at h8; done) | (simp_all; done)
                  ·
                    refine ct_skip ?_
                    refine at_then ?_
                    refine ct_seq ?_
                    refine ct_reg ?_
                    refine rl_val gw_none (ov_assign rfl) rfl ?_
                    refine rl_nil ?_
                    refine at_then ?_
                    refine ct_ret ?_
                    refine at_ret1 Try.results7 (ro_tmp rfl) (fun w1 hp => ?_)
                    exact ⟨rfl, hp.ext0⟩

theorem law_PlayMoves (u : Int) (l : Int) (xs : List IntA2) (ms : List BeadMove) (vxs : Value) (vms : Value) (w : World) (zu : In64 u) (zl : In64 l) (hGxs : ∀ y ∈ xs, GIntA2 y) (hsxs : SR w 2 vxs xs.length (flat encIntA2 xs)) (hGms : ∀ y ∈ ms, GBeadMove y) (hsms : SR w 3 vms ms.length (flat encBeadMove ms)) : Calls Try.prog 8 ([.agg (List.toArray (α := Value) [.int .i64 u, .int .i64 l, vxs]), vms]).toArray w (fun e w' => e = .returned (.bool true) ∧ Ext w w') := by
  have hlenxs := hsxs.len_le
  have hlenms := hsms.len_le
  have hrl := playR_len u l xs ms
  refine calls_ct Try.func8 Try.ntmps8 rfl rfl ?_
  refine ct_seq ?_
  refine ct_reg ?_
  refine rl_box rfl rfl (fun N1 => ?_)
  refine rl_val gw_none (ov_assign rfl) rfl ?_
  refine rl_nil ?_
  refine at_then ?_
  refine ct_seq ?_
  refine ct_reg ?_
  refine rl_val gw_none (ov_assign rfl) rfl ?_
  refine rl_nil ?_
  refine at_then ?_
  refine ct_seq ?_
  refine ct_reg ?_
  first | refine rl_val gw_none (ov_loadall 0 ag30 rfl rfl rfl) rfl ?_ | refine rl_val gw_none (ov_loadp 0 ag30 rfl rfl (vs := [_, _, _]) rfl rfl) rfl ?_ | refine rl_val gw_none (ov_loada 0 ag30 rfl rfl rfl (by assumption)) rfl ?_
  refine rl_val gw_none (ov_move rfl) rfl ?_
  refine rl_callx (ι := Int) (fun r => .int .i64 r) (fun r => r < 0 ∨ (0 ≤ r ∧ r ≤ 1048576 - xs.length)) gw_none goes20 rfl (fun w1 hp => szFrame_c 1048576 u l xs _ _ zu zl hGxs (hsxs.ext hp.ext0) (by omega)) rfl (fun rxs hrxs => ?_)
  refine rl_val gw_none (ov_assign rfl) rfl ?_
  refine rl_nil ?_
  refine at_then ?_
  refine ct_seq ?_
  refine ct_seq ?_
  refine ct_reg ?_
  refine rl_val gw_none (ov_move rfl) rfl ?_
  refine rl_val gw_none (ov_lss rfl rfl) rfl ?_
  refine rl_nil ?_
  refine at_then ?_
  first | refine ct_dec rfl (fun h1 => ?_) (fun h1 => ?_) | refine ct_ndec rfl (fun h1 => ?_) (fun h1 => ?_) | refine ct_eq rfl (fun h1 => ?_) (fun h1 => ?_) | refine ct_ne rfl (fun h1 => ?_) (fun h1 => ?_) | refine ct_not rfl (fun h1 => ?_) (fun h1 => ?_) | refine ct_cond rfl (fun h1 => ?_) (fun h1 => ?_)
  ·
    refine ct_seq ?_
    refine ct_reg ?_
    refine rl_val gw_none (ov_assign rfl) rfl ?_
    refine rl_nil ?_
    refine at_then ?_
    refine ct_ret ?_
    refine at_then_ret ?_
    refine at_ret1 Try.results8 (ro_tmp rfl) (fun w1 hp => ?_)
    exact ⟨rfl, hp.ext0⟩
  ·
    have hbxs : xs.length ≤ 1048576 := by omega
    have hmxs : xs.length ≤ maxLen := by unfold maxLen; omega
    refine ct_skip ?_
    refine at_then ?_
    refine ct_seq ?_
    refine ct_reg ?_
    refine rl_val gw_none (ov_move rfl) rfl ?_
    refine rl_val gw_none (ov_move rfl) rfl ?_
    refine rl_callx (ι := Int) (fun r => .int .i64 r) (fun r => r < 0 ∨ (0 ≤ r ∧ r ≤ rxs - ms.length)) gw_none goes31 rfl (fun w1 hp => szBeadMoveS_c ms.length rxs _ _ _ (hsms.ext hp.ext0) (by omega)) rfl (fun rms hrms => ?_)
    refine rl_val gw_none (ov_assign rfl) rfl ?_
    refine rl_nil ?_
    refine at_then ?_
    refine ct_seq ?_
    refine ct_seq ?_
    refine ct_reg ?_
    refine rl_val gw_none (ov_move rfl) rfl ?_
    refine rl_val gw_none (ov_lss rfl rfl) rfl ?_
    refine rl_nil ?_
    refine at_then ?_
    first | refine ct_dec rfl (fun h2 => ?_) (fun h2 => ?_) | refine ct_ndec rfl (fun h2 => ?_) (fun h2 => ?_) | refine ct_eq rfl (fun h2 => ?_) (fun h2 => ?_) | refine ct_ne rfl (fun h2 => ?_) (fun h2 => ?_) | refine ct_not rfl (fun h2 => ?_) (fun h2 => ?_) | refine ct_cond rfl (fun h2 => ?_) (fun h2 => ?_)
    ·
      refine ct_seq ?_
      refine ct_reg ?_
      refine rl_val gw_none (ov_assign rfl) rfl ?_
      refine rl_nil ?_
      refine at_then ?_
      refine ct_ret ?_
      refine at_then_ret ?_
      refine at_ret1 Try.results8 (ro_tmp rfl) (fun w1 hp => ?_)
      exact ⟨rfl, hp.ext0⟩
    ·
      have hbms : ms.length ≤ 1048576 := by omega
      have hmms : ms.length ≤ maxLen := by unfold maxLen; omega
      refine ct_skip ?_
      refine at_then ?_
      refine ct_seq ?_
      refine ct_reg ?_
      first | refine rl_val gw_none (ov_loadall 0 ag30 rfl rfl rfl) rfl ?_ | refine rl_val gw_none (ov_loadp 0 ag30 rfl rfl (vs := [_, _, _]) rfl rfl) rfl ?_ | refine rl_val gw_none (ov_loada 0 ag30 rfl rfl rfl (by assumption)) rfl ?_
      refine rl_calle (ι := Nat) (fun q => .agg (List.toArray (α := Value) [.int .i64 u, .int .i64 l, .slice (some ⟨q, 0, none⟩) xs.length xs.length])) (fun q => [(some q, _, flat encIntA2 xs)]) (fun _ => True) goes22 rfl (fun w1 hp => toFrame_c u l xs _ _ zu zl hGxs (hsxs.ext hp.ext0) hbxs) rfl (fun qwxs _ => ?_)
      refine rl_val gw_none (ov_move rfl) rfl ?_
      refine rl_callnew (fun b => .slice (some ⟨b, 0, none⟩) ms.length ms.length) goes33 rfl (fun w1 hp => toBeadMoveS_c ms _ _ (hsms.ext hp.ext0) hbms) rfl (fun b1 => ?_)
      refine rl_callsl (ι := Nat × List Value) (fun i bo => .tuple #[.agg [.int .i64 (playR u l xs ms).u, .int .i64 (playR u l xs ms).l, (sv bo ((playR u l xs ms).xs.length) i.1)].toArray, .bool (playR u l xs ms).ok]) (fun i => flat encIntA2 (playR u l xs ms).xs ++ i.2) (fun i bo => Sl 2 bo ((playR u l xs ms).xs.length) i.1 (flat encIntA2 (playR u l xs ms).xs) i.2) goes32 rfl (fun w1 hp => sPlayMoves_c u l xs ms _ _ _ zu zl hGxs (hp.sr1 1 rfl (flat_length encIntA2_len _) hmxs) hGms (hp.sr1 0 rfl (flat_length encBeadMove_len _) hmms)) rfl (fun iW0 boW0 hsW0 => ?_)
      refine rl_val gw_none (ov_move rfl) rfl ?_
      refine rl_val gw_none (ov_extract rfl rfl) rfl ?_
      refine rl_val gw_none (ov_extract rfl rfl) rfl ?_
      refine rl_alloc ze24 rfl (fun N2 => ?_)
      refine rl_store [] sz24 rfl rfl rfl rfl rfl (Nat.le_of_ble_eq_true rfl) ?_
      refine rl_val gw_none (ov_assign rfl) rfl ?_
      refine rl_nil ?_
      refine at_then ?_
      refine ct_seq ?_
      refine ct_reg ?_
      first | refine rl_val gw_none (ov_loadall 4 ag30 rfl rfl rfl) rfl ?_ | refine rl_val gw_none (ov_loadp 4 ag30 rfl rfl (vs := [_, _, _]) rfl rfl) rfl ?_ | refine rl_val gw_none (ov_loada 4 ag30 rfl rfl rfl (by assumption)) rfl ?_
      refine rl_calle (ι := Nat) (fun q => .agg (List.toArray (α := Value) [.int .i64 u, .int .i64 l, .slice (some ⟨q, 0, none⟩) xs.length xs.length])) (fun q => [(some q, _, flat encIntA2 xs)]) (fun _ => True) goes22 rfl (fun w1 hp => toFrame_c u l xs _ _ zu zl hGxs (hsxs.ext hp.ext0) hbxs) rfl (fun qxxs _ => ?_)
      refine rl_alloc ze24 rfl (fun N3 => ?_)
      refine rl_store [] sz24 rfl rfl rfl rfl rfl (Nat.le_of_ble_eq_true rfl) ?_
      refine rl_nil ?_
      refine at_then ?_
      refine ct_seq ?_
      refine ct_reg ?_
      refine rl_val gw_none (ov_move rfl) rfl ?_
      refine rl_callnew (fun b => .slice (some ⟨b, 0, none⟩) ms.length ms.length) goes33 rfl (fun w1 hp => toBeadMoveS_c ms _ _ (hsms.ext hp.ext0) hbms) rfl (fun b2 => ?_)
      refine rl_val gw_none (ov_assign rfl) rfl ?_
      refine rl_nil ?_
      refine at_then ?_
      refine ct_seq ?_
      refine ct_reg ?_
      first | refine rl_val gw_none (ov_loadall 1 ag24 rfl rfl rfl) rfl ?_ | refine rl_val gw_none (ov_loadp 1 ag24 rfl rfl (vs := [_, _, _]) rfl rfl) rfl ?_ | refine rl_val gw_none (ov_loada 1 ag24 rfl rfl rfl (by assumption)) rfl ?_
      refine rl_val gw_none (ov_move rfl) rfl ?_
      refine rl_callsl (ι := Nat × List Value) (fun i bo => .tuple #[.agg [.int .i64 (playR u l xs ms).u, .int .i64 (playR u l xs ms).l, (sv bo ((playR u l xs ms).xs.length) i.1)].toArray, .bool (playR u l xs ms).ok]) (fun i => flat encIntA2 (playR u l xs ms).xs ++ i.2) (fun i bo => Sl 2 bo ((playR u l xs ms).xs.length) i.1 (flat encIntA2 (playR u l xs ms).xs) i.2) goes34 rfl (fun w1 hp => iPlayMoves_c u l xs ms _ _ _ zu zl hGxs (hp.sr1 2 rfl (flat_length encIntA2_len _) hmxs) hGms (hp.sr1 0 rfl (flat_length encBeadMove_len _) hmms)) rfl (fun iG0 boG0 hsG0 => ?_)
      refine rl_val gw_none (ov_move rfl) rfl ?_
      refine rl_val gw_none (ov_extract rfl rfl) rfl ?_
      refine rl_val gw_none (ov_extract rfl rfl) rfl ?_
      refine rl_alloc ze24 rfl (fun N4 => ?_)
      refine rl_store [] sz24 rfl rfl rfl rfl rfl (Nat.le_of_ble_eq_true rfl) ?_
      refine rl_val gw_none (ov_assign rfl) rfl ?_
      refine rl_nil ?_
      refine at_then ?_
      refine ct_seq ?_
      refine ct_seq ?_
      refine ct_reg ?_
      first | refine rl_val gw_none (ov_loadall 0 ag24 rfl rfl rfl) rfl ?_ | refine rl_val gw_none (ov_loadp 0 ag24 rfl rfl (vs := [_, _, _]) rfl rfl) rfl ?_ | refine rl_val gw_none (ov_loada 0 ag24 rfl rfl rfl (by assumption)) rfl ?_
      first | refine rl_val gw_none (ov_loadall 5 ag24 rfl rfl rfl) rfl ?_ | refine rl_val gw_none (ov_loadp 5 ag24 rfl rfl (vs := [_, _, _]) rfl rfl) rfl ?_ | refine rl_val gw_none (ov_loada 5 ag24 rfl rfl rfl (by assumption)) rfl ?_
      refine rl_callv gw_none goes17 rfl (fun w1 hp => eqFrame_c _ _ (playR u l xs ms).xs _ _ _ (hp.slsr 1 rfl hsG0) (hp.slsr 6 rfl hsW0)) rfl ?_
      refine rl_val gw_none (ov_not rfl) rfl ?_
      refine rl_val gw_none (ov_move rfl) rfl ?_
      refine rl_val (gw_some rfl rfl rfl) (ov_move rfl) rfl ?_
      refine rl_val (gw_some rfl rfl rfl) (ov_move rfl) rfl ?_
      refine rl_val (gw_some rfl rfl rfl) (ov_neb Try.underlying4 rfl rfl) rfl ?_
      refine rl_val gw_none (ov_pick_f rfl rfl rfl) rfl ?_
      refine rl_nil ?_
      refine at_then ?_
      first | refine ct_dec rfl (fun h3 => ?_) (fun h3 => ?_) | refine ct_ndec rfl (fun h3 => ?_) (fun h3 => ?_) | refine ct_eq rfl (fun h3 => ?_) (fun h3 => ?_) | refine ct_ne rfl (fun h3 => ?_) (fun h3 => ?_) | refine ct_not rfl (fun h3 => ?_) (fun h3 => ?_) | refine ct_cond rfl (fun h3 => ?_) (fun h3 => ?_)
      ·
        exfalso; first | omega | exact absurd rfl h3 | (simp at h3; done) | (simp_all; done)
      ·
        refine ct_skip ?_
        refine at_then ?_
        refine ct_seq ?_
        refine ct_seq ?_
        refine ct_dre 3 [0, 1, 2, 3, 4] [2] (by kernel_rfl) (by kernel_rfl) ?_
        first | refine qe_val rfl gw_none (ov_loadall 3 ag24 rfl rfl rfl) rfl ?_ | refine qe_val rfl gw_none (ov_loadp 3 ag24 rfl rfl (vs := [_, _, _]) rfl rfl) rfl ?_ | refine qe_val rfl gw_none (ov_loada 3 ag24 rfl rfl rfl (by assumption)) rfl ?_
        first | refine qe_val rfl gw_none (ov_loadall 9 ag30 rfl rfl rfl) rfl ?_ | refine qe_val rfl gw_none (ov_loadp 9 ag30 rfl rfl (vs := [_, _, _]) rfl rfl) rfl ?_ | refine qe_val rfl gw_none (ov_loada 9 ag30 rfl rfl rfl (by assumption)) rfl ?_
        refine qe_calle (ι := Nat) (fun q => .agg (List.toArray (α := Value) [.int .i64 u, .int .i64 l, .slice (some ⟨q, 0, none⟩) xs.length xs.length])) (fun q => [(some q, _, flat encIntA2 xs)]) (fun _ => True) rfl goes22 rfl (fun w1 hp => toFrame_c u l xs _ _ zu zl hGxs (hsxs.ext hp.ext0) hbxs) rfl (fun qcxs _ => ?_)
        refine qe_nil ?_
        refine rl_callv gw_none goes17 rfl (fun w1 hp => eqFrame_c u l xs _ _ _  (hp.sr1 5 rfl (flat_length encIntA2_len _) hmxs) (hp.sr1 0 rfl (flat_length encIntA2_len _) hmxs)) rfl ?_
        refine rl_val gw_none (ov_not rfl) rfl ?_
        refine rl_nil ?_
        refine at_then ?_
        refine ct_false rfl rfl ?_
        refine ct_skip ?_
        refine at_then ?_
        refine ct_seq ?_
        refine ct_seq ?_
        refine ct_reg ?_
        refine rl_val gw_none (ov_move rfl) rfl ?_
        refine rl_val gw_none (ov_move rfl) rfl ?_
        refine rl_callnew (fun b => .slice (some ⟨b, 0, none⟩) ms.length ms.length) goes33 rfl (fun w1 hp => toBeadMoveS_c ms _ _ (hsms.ext hp.ext0) hbms) rfl (fun b3 => ?_)
        refine rl_callv gw_none goes35 rfl (fun w1 hp => eqBeadMoveS_c ms _ _ _  (hp.sr1 4 rfl (flat_length encBeadMove_len _) hmms) (hp.sr1 0 rfl (flat_length encBeadMove_len _) hmms)) rfl ?_
        refine rl_val gw_none (ov_not rfl) rfl ?_
        refine rl_nil ?_
        refine at_then ?_
        refine ct_false rfl rfl ?_
        refine ct_skip ?_
        refine at_then ?_
        refine ct_seq ?_
        refine ct_reg ?_
        refine rl_val gw_none (ov_assign rfl) rfl ?_
        refine rl_nil ?_
        refine at_then ?_
        refine ct_seq ?_
        refine ct_reg ?_
        first | refine rl_val gw_none (ov_loadall 5 ag24 rfl rfl rfl) rfl ?_ | refine rl_val gw_none (ov_loadp 5 ag24 rfl rfl (vs := [_, _, _]) rfl rfl) rfl ?_ | refine rl_val gw_none (ov_loada 5 ag24 rfl rfl rfl (by assumption)) rfl ?_
        refine rl_val gw_none (ov_move rfl) rfl ?_
        refine rl_callm [_, _, _, _, _, _] goes18 rfl rfl (fun w1 hp => markFrame_m _ _ _ _ _ _ _ _ (hp.at (i := 6) rfl) (flat_length encIntA2_len _) (by omega)) rfl ?_
        refine rl_val gw_none (ov_assign rfl) rfl ?_
        refine rl_nil ?_
        refine at_then ?_
        refine ct_seq ?_
        refine ct_reg ?_
        refine rl_val gw_none (ov_move rfl) rfl ?_
        refine rl_val gw_none (ov_move rfl) rfl ?_
        refine rl_callm [_, _, _, _] goes36 rfl rfl (fun w1 hp => markBeadMoveS_m  _ _ _ _ _ _ (hp.at (i := 4) rfl) (flat_length encBeadMove_len _) (by omega)) rfl ?_
        refine rl_val gw_none (ov_assign rfl) rfl ?_
        refine rl_nil ?_
        refine at_then ?_
        refine ct_seq ?_
        refine ct_seq ?_
        refine ct_reg ?_
        refine rl_val gw_none (ov_move rfl) rfl ?_
        refine rl_val gw_none (ov_lss rfl rfl) rfl ?_
        refine rl_val gw_none (ov_move rfl) rfl ?_
        refine rl_split (t := 72) rfl (fun g1 => ?_) (fun g1 => ?_)
        ·
          exfalso; first | (simp at g1; omega) | (simp at g1; done) | (simp_all; done)
        ·
          have g1' := g1
          try simp only [Bool.not_eq_true', Bool.not_eq_false', Bool.not_not, decide_eq_true_eq, decide_eq_false_iff_not, beq_iff_eq, beq_eq_false_iff_ne, bne_iff_ne, bne_eq_false_iff_eq, Bool.and_eq_true, Bool.or_eq_true, Bool.and_eq_false_iff, Bool.or_eq_false_iff, inB] at g1'
          first | refine rl_val (gw_some rfl rfl g1) (ov_loadall 2 ag24 rfl rfl rfl) rfl ?_ | refine rl_val (gw_some rfl rfl g1) (ov_loadp 2 ag24 rfl rfl (vs := [_, _, _]) rfl rfl) rfl ?_ | refine rl_val (gw_some rfl rfl g1) (ov_loada 2 ag24 rfl rfl rfl (by assumption)) rfl ?_
          first | refine rl_val (gw_some rfl rfl g1) (ov_loadall 5 ag24 rfl rfl rfl) rfl ?_ | refine rl_val (gw_some rfl rfl g1) (ov_loadp 5 ag24 rfl rfl (vs := [_, _, _]) rfl rfl) rfl ?_ | refine rl_val (gw_some rfl rfl g1) (ov_loada 5 ag24 rfl rfl rfl (by assumption)) rfl ?_
          refine rl_callv (gw_some rfl rfl g1) goes17 rfl (fun w1 hp => eqFrame_c _ _ (playR u l xs ms).xs _ _ _ (hp.slsr 3 rfl hsG0) (hp.slsr 6 rfl hsW0)) rfl ?_
          refine rl_val (gw_some rfl rfl g1) (ov_not rfl) rfl ?_
          refine rl_val gw_none (ov_pick_f rfl g1 rfl) rfl ?_
          refine rl_val gw_none (ov_move rfl) rfl ?_
          refine rl_val (gw_some rfl rfl rfl) (ov_move rfl) rfl ?_
          refine rl_val (gw_some rfl rfl rfl) (ov_move rfl) rfl ?_
          refine rl_val (gw_some rfl rfl rfl) (ov_neb Try.underlying4 rfl rfl) rfl ?_
          refine rl_val gw_none (ov_pick_f rfl rfl rfl) rfl ?_
          refine rl_nil ?_
          refine at_then ?_
          first | refine ct_dec rfl (fun h4 => ?_) (fun h4 => ?_) | refine ct_ndec rfl (fun h4 => ?_) (fun h4 => ?_) | refine ct_eq rfl (fun h4 => ?_) (fun h4 => ?_) | refine ct_ne rfl (fun h4 => ?_) (fun h4 => ?_) | refine ct_not rfl (fun h4 => ?_) (fun h4 => ?_) | refine ct_cond rfl (fun h4 => ?_) (fun h4 => ?_)
          ·
            exfalso; first | omega | exact absurd rfl h4 | (simp at h4; done) | (simp_all; done)
          ·
            refine ct_skip ?_
            refine at_then ?_
            refine ct_seq ?_
            refine ct_reg ?_
            refine rl_val gw_none (ov_assign rfl) rfl ?_
            refine rl_nil ?_
            refine at_then ?_
            refine ct_seq ?_
            refine ct_reg ?_
            first | refine rl_val gw_none (ov_loadall 2 ag24 rfl rfl rfl) rfl ?_ | refine rl_val gw_none (ov_loadp 2 ag24 rfl rfl (vs := [_, _, _]) rfl rfl) rfl ?_ | refine rl_val gw_none (ov_loada 2 ag24 rfl rfl rfl (by assumption)) rfl ?_
            refine rl_val gw_none (ov_move rfl) rfl ?_
            refine rl_callwo [_, _, _] goes18 rfl rfl (fun w1 hp => markFrame_o _ _ _ hsG0 _ (hp.atO 3 rfl) (by omega)) rfl ?_
            refine rl_val gw_none (ov_assign rfl) rfl ?_
            refine rl_nil ?_
            refine at_then ?_
            refine ct_seq ?_
            refine ct_reg ?_
            refine rl_val gw_none (ov_assign rfl) rfl ?_
            refine rl_nil ?_
            refine at_then ?_
            refine ct_seq ?_
            refine ct_reg ?_
            first | refine rl_val gw_none (ov_loadall 2 ag24 rfl rfl rfl) rfl ?_ | refine rl_val gw_none (ov_loadp 2 ag24 rfl rfl (vs := [_, _, _]) rfl rfl) rfl ?_ | refine rl_val gw_none (ov_loada 2 ag24 rfl rfl rfl (by assumption)) rfl ?_
            refine rl_val gw_none (ov_move rfl) rfl ?_
            refine rl_callv gw_none goes19 rfl (fun w1 hp => heldFrame_c _ _ _ _ _ _ (hp.slsr 3 rfl (hsG0.marked _)) (by omega)) rfl ?_
            refine rl_val gw_none (ov_assign rfl) rfl ?_
            refine rl_nil ?_
            refine at_then ?_
            refine ct_seq ?_
            refine ct_seq ?_
            refine ct_reg ?_
            refine rl_val gw_none (ov_move rfl) rfl ?_
            refine rl_val gw_none (ov_lss rfl rfl) rfl ?_
            refine rl_nil ?_
            refine at_then ?_
            first | refine ct_dec rfl (fun h5 => ?_) (fun h5 => ?_) | refine ct_ndec rfl (fun h5 => ?_) (fun h5 => ?_) | refine ct_eq rfl (fun h5 => ?_) (fun h5 => ?_) | refine ct_ne rfl (fun h5 => ?_) (fun h5 => ?_) | refine ct_not rfl (fun h5 => ?_) (fun h5 => ?_) | refine ct_cond rfl (fun h5 => ?_) (fun h5 => ?_)
            ·
              exfalso; first | omega | exact absurd rfl h5 | (simp at h5; done) | (simp_all; done)
            ·
              refine ct_skip ?_
              refine at_then ?_
              refine ct_seq ?_
              refine ct_seq ?_
              refine ct_reg ?_
              refine rl_val gw_none (ov_move rfl) rfl ?_
              refine rl_val gw_none (ov_move rfl) rfl ?_
              refine rl_val gw_none (ov_neq rfl rfl) rfl ?_
              refine rl_nil ?_
              refine at_then ?_
              first | refine ct_dec rfl (fun h6 => ?_) (fun h6 => ?_) | refine ct_ndec rfl (fun h6 => ?_) (fun h6 => ?_) | refine ct_eq rfl (fun h6 => ?_) (fun h6 => ?_) | refine ct_ne rfl (fun h6 => ?_) (fun h6 => ?_) | refine ct_not rfl (fun h6 => ?_) (fun h6 => ?_) | refine ct_cond rfl (fun h6 => ?_) (fun h6 => ?_)
              ·
                exfalso; first | omega | exact absurd rfl h6 | (simp at h6; done) | (simp_all; done)
              ·
                refine ct_skip ?_
                refine at_then ?_
                refine ct_seq ?_
                refine ct_reg ?_
                first | refine rl_val gw_none (ov_loadall 9 ag30 rfl rfl rfl) rfl ?_ | refine rl_val gw_none (ov_loadp 9 ag30 rfl rfl (vs := [_, _, _]) rfl rfl) rfl ?_ | refine rl_val gw_none (ov_loada 9 ag30 rfl rfl rfl (by assumption)) rfl ?_
                refine rl_calle (ι := Nat) (fun q => .agg (List.toArray (α := Value) [.int .i64 u, .int .i64 l, .slice (some ⟨q, 0, none⟩) xs.length xs.length])) (fun q => [(some q, _, flat encIntA2 xs)]) (fun _ => True) goes22 rfl (fun w1 hp => toFrame_c u l xs _ _ zu zl hGxs (hsxs.ext hp.ext0) hbxs) rfl (fun qhxs _ => ?_)
                refine rl_val gw_none (ov_move rfl) rfl ?_
                refine rl_callnew (fun b => .slice (some ⟨b, 0, none⟩) ms.length ms.length) goes33 rfl (fun w1 hp => toBeadMoveS_c ms _ _ (hsms.ext hp.ext0) hbms) rfl (fun b4 => ?_)
                refine rl_callsl (ι := Nat × List Value) (fun i bo => .tuple #[.agg [.int .i64 (playR u l xs ms).u, .int .i64 (playR u l xs ms).l, (sv bo ((playR u l xs ms).xs.length) i.1)].toArray, .bool (playR u l xs ms).ok]) (fun i => flat encIntA2 (playR u l xs ms).xs ++ i.2) (fun i bo => Sl 2 bo ((playR u l xs ms).xs.length) i.1 (flat encIntA2 (playR u l xs ms).xs) i.2) goes34 rfl (fun w1 hp => iPlayMoves_c u l xs ms _ _ _ zu zl hGxs (hp.sr1 1 rfl (flat_length encIntA2_len _) hmxs) hGms (hp.sr1 0 rfl (flat_length encBeadMove_len _) hmms)) rfl (fun iH0 boH0 hsH0 => ?_)
                refine rl_val gw_none (ov_move rfl) rfl ?_
                refine rl_val gw_none (ov_extract rfl rfl) rfl ?_
                refine rl_val gw_none (ov_extract rfl rfl) rfl ?_
                refine rl_alloc ze24 rfl (fun N5 => ?_)
                refine rl_store [] sz24 rfl rfl rfl rfl rfl (Nat.le_of_ble_eq_true rfl) ?_
                refine rl_val gw_none (ov_assign rfl) rfl ?_
                refine rl_nil ?_
                refine at_then ?_
                refine ct_seq ?_
                refine ct_seq ?_
                refine ct_reg ?_
                first | refine rl_val gw_none (ov_loadall 0 ag24 rfl rfl rfl) rfl ?_ | refine rl_val gw_none (ov_loadp 0 ag24 rfl rfl (vs := [_, _, _]) rfl rfl) rfl ?_ | refine rl_val gw_none (ov_loada 0 ag24 rfl rfl rfl (by assumption)) rfl ?_
                first | refine rl_val gw_none (ov_loadall 9 ag24 rfl rfl rfl) rfl ?_ | refine rl_val gw_none (ov_loadp 9 ag24 rfl rfl (vs := [_, _, _]) rfl rfl) rfl ?_ | refine rl_val gw_none (ov_loada 9 ag24 rfl rfl rfl (by assumption)) rfl ?_
                refine rl_callv gw_none goes17 rfl (fun w1 hp => eqFrame_c _ _ (playR u l xs ms).xs _ _ _ (hp.slsr 1 rfl hsH0) (hp.slsr 10 rfl hsW0)) rfl ?_
                refine rl_val gw_none (ov_not rfl) rfl ?_
                refine rl_val gw_none (ov_move rfl) rfl ?_
                refine rl_val (gw_some rfl rfl rfl) (ov_move rfl) rfl ?_
                refine rl_val (gw_some rfl rfl rfl) (ov_move rfl) rfl ?_
                refine rl_val (gw_some rfl rfl rfl) (ov_neb Try.underlying4 rfl rfl) rfl ?_
                refine rl_val gw_none (ov_pick_f rfl rfl rfl) rfl ?_
                refine rl_nil ?_
                refine at_then ?_
                first | refine ct_dec rfl (fun h7 => ?_) (fun h7 => ?_) | refine ct_ndec rfl (fun h7 => ?_) (fun h7 => ?_) | refine ct_eq rfl (fun h7 => ?_) (fun h7 => ?_) | refine ct_ne rfl (fun h7 => ?_) (fun h7 => ?_) | refine ct_not rfl (fun h7 => ?_) (fun h7 => ?_) | refine ct_cond rfl (fun h7 => ?_) (fun h7 => ?_)
                ·
                  exfalso; first | omega | exact absurd rfl h7 | (simp at h7; done) | (simp_all; done)
                ·
                  refine ct_skip ?_
                  refine at_then ?_
                  refine ct_seq ?_
                  refine ct_reg ?_
                  refine rl_val gw_none (ov_assign rfl) rfl ?_
                  refine rl_nil ?_
                  refine at_then ?_
                  refine ct_seq ?_
                  refine ct_reg ?_
                  first | refine rl_val gw_none (ov_loadall 6 ag24 rfl rfl rfl) rfl ?_ | refine rl_val gw_none (ov_loadp 6 ag24 rfl rfl (vs := [_, _, _]) rfl rfl) rfl ?_ | refine rl_val gw_none (ov_loada 6 ag24 rfl rfl rfl (by assumption)) rfl ?_
                  refine rl_val gw_none (ov_move rfl) rfl ?_
                  refine rl_callv gw_none goes19 rfl (fun w1 hp => heldFrame_c _ _ _ _ _ _ (hp.slsr 7 rfl (hsG0.marked _)) (by omega)) rfl ?_
                  refine rl_val gw_none (ov_assign rfl) rfl ?_
                  refine rl_nil ?_
                  refine at_then ?_
                  refine ct_seq ?_
                  refine ct_seq ?_
                  refine ct_reg ?_
                  refine rl_val gw_none (ov_move rfl) rfl ?_
                  refine rl_val gw_none (ov_lss rfl rfl) rfl ?_
                  refine rl_nil ?_
                  refine at_then ?_
                  first | refine ct_dec rfl (fun h8 => ?_) (fun h8 => ?_) | refine ct_ndec rfl (fun h8 => ?_) (fun h8 => ?_) | refine ct_eq rfl (fun h8 => ?_) (fun h8 => ?_) | refine ct_ne rfl (fun h8 => ?_) (fun h8 => ?_) | refine ct_not rfl (fun h8 => ?_) (fun h8 => ?_) | refine ct_cond rfl (fun h8 => ?_) (fun h8 => ?_)
                  ·
                    exfalso; first | omega | exact absurd rfl h8 | (simp at h8; done) | (simp_all; done)
                  ·
                    refine ct_skip ?_
                    refine at_then ?_
                    refine ct_seq ?_
                    refine ct_seq ?_
                    refine ct_reg ?_
                    refine rl_val gw_none (ov_move rfl) rfl ?_
                    refine rl_val gw_none (ov_move rfl) rfl ?_
                    refine rl_val gw_none (ov_neq rfl rfl) rfl ?_
                    refine rl_nil ?_
                    refine at_then ?_
                    first | refine ct_dec rfl (fun h9 => ?_) (fun h9 => ?_) | refine ct_ndec rfl (fun h9 => ?_) (fun h9 => ?_) | refine ct_eq rfl (fun h9 => ?_) (fun h9 => ?_) | refine ct_ne rfl (fun h9 => ?_) (fun h9 => ?_) | refine ct_not rfl (fun h9 => ?_) (fun h9 => ?_) | refine ct_cond rfl (fun h9 => ?_) (fun h9 => ?_)
                    ·
                      exfalso; first | omega | exact absurd rfl h9 | (simp at h9; done) | (simp_all; done)
                    ·
                      refine ct_skip ?_
                      refine at_then ?_
                      refine ct_seq ?_
                      refine ct_reg ?_
                      refine rl_val gw_none (ov_assign rfl) rfl ?_
                      refine rl_nil ?_
                      refine at_then ?_
                      refine ct_ret ?_
                      refine at_ret1 Try.results8 (ro_tmp rfl) (fun w1 hp => ?_)
                      exact ⟨rfl, hp.ext0⟩
end Go.Proofs.Ytaohanhgengicaa
