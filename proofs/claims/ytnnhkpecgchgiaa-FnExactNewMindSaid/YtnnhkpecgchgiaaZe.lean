import Derived.Test.YtnnhkpecgchgiaaZd
import Derived.KernelRfl
set_option linter.unusedVariables false
set_option linter.unusedSimpArgs false
namespace Go.Proofs.Ytnnhkpecgchgiaa
open Go Go.RowKit K
theorem nmR_len (u l : Int) (xs : List IntA2) : (nmR u l xs).xs.length ≤ xs.length ∧ (nmR u l xs).cl.length ≤ xs.length ∧ (nmR u l xs).im.length ≤ xs.length := by
  unfold nmR
  split
  · exact ⟨Nat.le_refl _, by dsimp only; rw [List.length_replicate]; exact Nat.le_refl _, by dsimp only; rw [digL_len]; exact Nat.le_refl _⟩
  · simp

theorem law_NewMind (u : Int) (l : Int) (xs : List IntA2) (vxs : Value) (w : World) (zu : In64 u) (zl : In64 l) (hGxs : ∀ y ∈ xs, GIntA2 y) (hsxs : SR w 2 vxs xs.length (flat encIntA2 xs)) : Calls Try.prog 3 ([.agg (List.toArray (α := Value) [.int .i64 u, .int .i64 l, vxs])]).toArray w (fun e w' => e = .returned (.bool true) ∧ Ext w w') := by
  have hlenxs := hsxs.len_le
  have hrl := nmR_len u l xs
  refine calls_ct Try.func3 Try.ntmps3 rfl rfl ?_
  refine ct_seq ?_
  refine ct_reg ?_
  refine rl_box rfl rfl (fun N1 => ?_)
  refine rl_val gw_none (ov_assign rfl) rfl ?_
  refine rl_nil ?_
  refine at_then ?_
  refine ct_seq ?_
  refine ct_reg ?_
  refine rl_val gw_none (ov_assign rfl) rfl ?_
  refine rl_nil ?_
  refine at_then ?_
  refine ct_seq ?_
  refine ct_reg ?_
  first | refine rl_val gw_none (ov_loadall 0 ag24 rfl rfl rfl) rfl ?_ | refine rl_val gw_none (ov_loadp 0 ag24 rfl rfl (vs := [_, _, _]) rfl rfl) rfl ?_ | refine rl_val gw_none (ov_loada 0 ag24 rfl rfl rfl (by assumption)) rfl ?_
  refine rl_val gw_none (ov_move rfl) rfl ?_
  refine rl_callx (ι := Int) (fun r => .int .i64 r) (fun r => r < 0 ∨ (0 ≤ r ∧ r ≤ 1048576 - xs.length)) gw_none goes15 rfl (fun w1 hp => szFrame_c 1048576 u l xs _ _ zu zl hGxs (hsxs.ext hp.ext0) (by omega)) rfl (fun rxs hrxs => ?_)
  refine rl_val gw_none (ov_assign rfl) rfl ?_
  refine rl_nil ?_
  refine at_then ?_
  refine ct_seq ?_
  refine ct_seq ?_
  refine ct_reg ?_
  refine rl_val gw_none (ov_move rfl) rfl ?_
  refine rl_val gw_none (ov_lss rfl rfl) rfl ?_
  refine rl_nil ?_
  refine at_then ?_
  first | refine ct_dec rfl (fun h1 => ?_) (fun h1 => ?_) | refine ct_ndec rfl (fun h1 => ?_) (fun h1 => ?_) | refine ct_eq rfl (fun h1 => ?_) (fun h1 => ?_) | refine ct_ne rfl (fun h1 => ?_) (fun h1 => ?_) | refine ct_not rfl (fun h1 => ?_) (fun h1 => ?_) | refine ct_cond rfl (fun h1 => ?_) (fun h1 => ?_)
  ·
    refine ct_seq ?_
    refine ct_reg ?_
    refine rl_val gw_none (ov_assign rfl) rfl ?_
    refine rl_nil ?_
    refine at_then ?_
    refine ct_ret ?_
    refine at_then_ret ?_
    refine at_ret1 Try.results3 (ro_tmp rfl) (fun w1 hp => ?_)
    exact ⟨rfl, hp.ext0⟩
  ·
    have hbxs : xs.length ≤ 1048576 := by omega
    have hmxs : xs.length ≤ maxLen := by unfold maxLen; omega
    refine ct_skip ?_
    refine at_then ?_
    refine ct_seq ?_
    refine ct_reg ?_
    first | refine rl_val gw_none (ov_loadall 0 ag24 rfl rfl rfl) rfl ?_ | refine rl_val gw_none (ov_loadp 0 ag24 rfl rfl (vs := [_, _, _]) rfl rfl) rfl ?_ | refine rl_val gw_none (ov_loada 0 ag24 rfl rfl rfl (by assumption)) rfl ?_
    refine rl_calle (ι := Nat) (fun q => .agg (List.toArray (α := Value) [.int .i64 u, .int .i64 l, .slice (some ⟨q, 0, none⟩) xs.length xs.length])) (fun q => [(some q, _, flat encIntA2 xs)]) (fun _ => True) goes17 rfl (fun w1 hp => toFrame_c u l xs _ _ zu zl hGxs (hsxs.ext hp.ext0) hbxs) rfl (fun qwxs _ => ?_)
    refine rl_calle (ι := (Option Nat × Nat × List Value) × (Option Nat × Nat × List Value) × (Option Nat × Nat × List Value)) (fun q => .tuple #[.agg (List.toArray (α := Value) [.int .i64 (nmR u l xs).u, .int .i64 (nmR u l xs).l, sv q.1.1 (nmR u l xs).xs.length q.1.2.1, sv q.2.1.1 (nmR u l xs).cl.length q.2.1.2.1, sv q.2.2.1 (nmR u l xs).im.length q.2.2.2.1, .int .i64 0, .int .i64 0]), .bool (goodB u l xs)]) (fun q => [(q.1.1, 81, flat encIntA2 (nmR u l xs).xs ++ q.1.2.2), (q.2.1.1, 3, ints (nmR u l xs).cl ++ q.2.1.2.2), (q.2.2.1, 3, ints (nmR u l xs).im ++ q.2.2.2.2)]) (fun q => Sl 2 q.1.1 (nmR u l xs).xs.length q.1.2.1 (flat encIntA2 (nmR u l xs).xs) q.1.2.2 ∧ Sl 1 q.2.1.1 (nmR u l xs).cl.length q.2.1.2.1 (ints (nmR u l xs).cl) q.2.1.2.2 ∧ Sl 1 q.2.2.1 (nmR u l xs).im.length q.2.2.2.1 (ints (nmR u l xs).im) q.2.2.2.2) goes16 rfl (fun w1 hp => sNewMind_c u l xs _ _ zu zl hGxs (hp.sr1 0 rfl (flat_length encIntA2_len _) hmxs)) rfl (fun qW hqW => ?_)
    obtain ⟨⟨boW1, cW1, pW1⟩, ⟨boW2, cW2, pW2⟩, ⟨boW3, cW3, pW3⟩⟩ := qW
    obtain ⟨hsW1, hsW2, hsW3⟩ := hqW
    dsimp only at hsW1 hsW2 hsW3
    try dsimp only
    refine rl_val gw_none (ov_move rfl) rfl ?_
    refine rl_val gw_none (ov_extract rfl rfl) rfl ?_
    refine rl_val gw_none (ov_extract rfl rfl) rfl ?_
    refine rl_alloc ze29 rfl (fun N2 => ?_)
    refine rl_store [] sz29 rfl rfl rfl rfl rfl (Nat.le_of_ble_eq_true rfl) ?_
    refine rl_val gw_none (ov_assign rfl) rfl ?_
    refine rl_nil ?_
    refine at_then ?_
    refine ct_seq ?_
    refine ct_reg ?_
    first | refine rl_val gw_none (ov_loadall 5 ag24 rfl rfl rfl) rfl ?_ | refine rl_val gw_none (ov_loadp 5 ag24 rfl rfl (vs := [_, _, _]) rfl rfl) rfl ?_ | refine rl_val gw_none (ov_loada 5 ag24 rfl rfl rfl (by assumption)) rfl ?_
    refine rl_calle (ι := Nat) (fun q => .agg (List.toArray (α := Value) [.int .i64 u, .int .i64 l, .slice (some ⟨q, 0, none⟩) xs.length xs.length])) (fun q => [(some q, _, flat encIntA2 xs)]) (fun _ => True) goes17 rfl (fun w1 hp => toFrame_c u l xs _ _ zu zl hGxs (hsxs.ext hp.ext0) hbxs) rfl (fun qxxs _ => ?_)
    refine rl_alloc ze26 rfl (fun N3 => ?_)
    refine rl_store [] sz26 rfl rfl rfl rfl rfl (Nat.le_of_ble_eq_true rfl) ?_
    refine rl_nil ?_
    refine at_then ?_
    refine ct_seq ?_
    refine ct_reg ?_
    first | refine rl_val gw_none (ov_loadall 0 ag26 rfl rfl rfl) rfl ?_ | refine rl_val gw_none (ov_loadp 0 ag26 rfl rfl (vs := [_, _, _]) rfl rfl) rfl ?_ | refine rl_val gw_none (ov_loada 0 ag26 rfl rfl rfl (by assumption)) rfl ?_
    refine rl_calle (ι := (Option Nat × Nat × List Value) × (Option Nat × Nat × List Value) × (Option Nat × Nat × List Value)) (fun q => .tuple #[.agg (List.toArray (α := Value) [.int .i64 (nmR u l xs).u, .int .i64 (nmR u l xs).l, sv q.1.1 (nmR u l xs).xs.length q.1.2.1, sv q.2.1.1 (nmR u l xs).cl.length q.2.1.2.1, sv q.2.2.1 (nmR u l xs).im.length q.2.2.2.1, .int .i64 0, .int .i64 0]), .bool (goodB u l xs)]) (fun q => [(q.1.1, 81, flat encIntA2 (nmR u l xs).xs ++ q.1.2.2), (q.2.1.1, 3, ints (nmR u l xs).cl ++ q.2.1.2.2), (q.2.2.1, 3, ints (nmR u l xs).im ++ q.2.2.2.2)]) (fun q => Sl 2 q.1.1 (nmR u l xs).xs.length q.1.2.1 (flat encIntA2 (nmR u l xs).xs) q.1.2.2 ∧ Sl 1 q.2.1.1 (nmR u l xs).cl.length q.2.1.2.1 (ints (nmR u l xs).cl) q.2.1.2.2 ∧ Sl 1 q.2.2.1 (nmR u l xs).im.length q.2.2.2.1 (ints (nmR u l xs).im) q.2.2.2.2) goes18 rfl (fun w1 hp => iNewMind_c u l xs _ _ zu zl hGxs (hp.sr1 1 rfl (flat_length encIntA2_len _) hmxs)) rfl (fun qG hqG => ?_)
    obtain ⟨⟨boG1, cG1, pG1⟩, ⟨boG2, cG2, pG2⟩, ⟨boG3, cG3, pG3⟩⟩ := qG
    obtain ⟨hsG1, hsG2, hsG3⟩ := hqG
    dsimp only at hsG1 hsG2 hsG3
    try dsimp only
    refine rl_val gw_none (ov_move rfl) rfl ?_
    refine rl_val gw_none (ov_extract rfl rfl) rfl ?_
    refine rl_val gw_none (ov_extract rfl rfl) rfl ?_
    refine rl_alloc ze29 rfl (fun N4 => ?_)
    refine rl_store [] sz29 rfl rfl rfl rfl rfl (Nat.le_of_ble_eq_true rfl) ?_
    refine rl_val gw_none (ov_assign rfl) rfl ?_
    refine rl_nil ?_
    refine at_then ?_
    refine ct_seq ?_
    refine ct_seq ?_
    refine ct_reg ?_
    first | refine rl_val gw_none (ov_loadall 0 ag29 rfl rfl rfl) rfl ?_ | refine rl_val gw_none (ov_loadp 0 ag29 rfl rfl (vs := [_, _, _, _, _, _, _]) rfl rfl) rfl ?_ | refine rl_val gw_none (ov_loada 0 ag29 rfl rfl rfl (by assumption)) rfl ?_
    first | refine rl_val gw_none (ov_loadall 6 ag29 rfl rfl rfl) rfl ?_ | refine rl_val gw_none (ov_loadp 6 ag29 rfl rfl (vs := [_, _, _, _, _, _, _]) rfl rfl) rfl ?_ | refine rl_val gw_none (ov_loada 6 ag29 rfl rfl rfl (by assumption)) rfl ?_
    refine rl_callv gw_none goes19 rfl (fun w1 hp => eqMind_c _ _ _ _ _ _ _ _ _ _ _ _ _ _ (hp.slsr 1 rfl hsG1) (hp.slsr 2 rfl hsG2) (hp.slsr 3 rfl hsG3) (hp.slsr 7 rfl hsW1) (hp.slsr 8 rfl hsW2) (hp.slsr 9 rfl hsW3)) rfl ?_
    refine rl_val gw_none (ov_not rfl) rfl ?_
    refine rl_val gw_none (ov_move rfl) rfl ?_
    refine rl_val (gw_some rfl rfl rfl) (ov_move rfl) rfl ?_
    refine rl_val (gw_some rfl rfl rfl) (ov_move rfl) rfl ?_
    refine rl_val (gw_some rfl rfl rfl) (ov_neb Try.underlying4 rfl rfl) rfl ?_
    refine rl_val gw_none (ov_pick_f rfl rfl rfl) rfl ?_
    refine rl_nil ?_
    refine at_then ?_
    first | refine ct_dec rfl (fun h2 => ?_) (fun h2 => ?_) | refine ct_ndec rfl (fun h2 => ?_) (fun h2 => ?_) | refine ct_eq rfl (fun h2 => ?_) (fun h2 => ?_) | refine ct_ne rfl (fun h2 => ?_) (fun h2 => ?_) | refine ct_not rfl (fun h2 => ?_) (fun h2 => ?_) | refine ct_cond rfl (fun h2 => ?_) (fun h2 => ?_)
    ·
      exfalso; first | omega | exact absurd rfl h2 | (simp at h2; done) | (simp_all; done)
    ·
      refine ct_skip ?_
      refine at_then ?_
      refine ct_seq ?_
      refine ct_seq ?_
      refine ct_dre 3 [0, 1, 2, 3, 4] [2] (by kernel_rfl) (by kernel_rfl) ?_
      first | refine qe_val rfl gw_none (ov_loadall 4 ag26 rfl rfl rfl) rfl ?_ | refine qe_val rfl gw_none (ov_loadp 4 ag26 rfl rfl (vs := [_, _, _]) rfl rfl) rfl ?_ | refine qe_val rfl gw_none (ov_loada 4 ag26 rfl rfl rfl (by assumption)) rfl ?_
      first | refine qe_val rfl gw_none (ov_loadall 11 ag24 rfl rfl rfl) rfl ?_ | refine qe_val rfl gw_none (ov_loadp 11 ag24 rfl rfl (vs := [_, _, _]) rfl rfl) rfl ?_ | refine qe_val rfl gw_none (ov_loada 11 ag24 rfl rfl rfl (by assumption)) rfl ?_
      refine qe_calle (ι := Nat) (fun q => .agg (List.toArray (α := Value) [.int .i64 u, .int .i64 l, .slice (some ⟨q, 0, none⟩) xs.length xs.length])) (fun q => [(some q, _, flat encIntA2 xs)]) (fun _ => True) rfl goes17 rfl (fun w1 hp => toFrame_c u l xs _ _ zu zl hGxs (hsxs.ext hp.ext0) hbxs) rfl (fun qcxs _ => ?_)
      refine qe_nil ?_
      refine rl_callv gw_none goes20 rfl (fun w1 hp => eqFrame_c u l xs _ _ _ (hp.sr1 6 rfl (flat_length encIntA2_len _) hmxs) (hp.sr1 0 rfl (flat_length encIntA2_len _) hmxs)) rfl ?_
      refine rl_val gw_none (ov_not rfl) rfl ?_
      refine rl_nil ?_
      refine at_then ?_
      refine ct_false rfl rfl ?_
      refine ct_skip ?_
      refine at_then ?_
      refine ct_seq ?_
      refine ct_reg ?_
      refine rl_val gw_none (ov_assign rfl) rfl ?_
      refine rl_nil ?_
      refine at_then ?_
      refine ct_seq ?_
      refine ct_reg ?_
      first | refine rl_val gw_none (ov_loadall 5 ag26 rfl rfl rfl) rfl ?_ | refine rl_val gw_none (ov_loadp 5 ag26 rfl rfl (vs := [_, _, _]) rfl rfl) rfl ?_ | refine rl_val gw_none (ov_loada 5 ag26 rfl rfl rfl (by assumption)) rfl ?_
      refine rl_val gw_none (ov_move rfl) rfl ?_
      refine rl_callm [_, _, _, _, _, _] goes21 rfl rfl (fun w1 hp => markFrame_m _ _ _ _ _ _ _ _ (hp.at (i := 6) rfl) (flat_length encIntA2_len _) (by omega)) rfl ?_
      refine rl_val gw_none (ov_assign rfl) rfl ?_
      refine rl_nil ?_
      refine at_then ?_
      refine ct_seq ?_
      refine ct_seq ?_
      refine ct_reg ?_
      refine rl_val gw_none (ov_move rfl) rfl ?_
      refine rl_val gw_none (ov_lss rfl rfl) rfl ?_
      refine rl_val gw_none (ov_move rfl) rfl ?_
      refine rl_split (t := 51) rfl (fun g1 => ?_) (fun g1 => ?_)
      ·
        exfalso; first | (simp at g1; omega) | (simp at g1; done) | (simp_all; done)
      ·
        have g1' := g1
        try simp only [Bool.not_eq_true', Bool.not_eq_false', Bool.not_not, decide_eq_true_eq, decide_eq_false_iff_not, beq_iff_eq, beq_eq_false_iff_ne, bne_iff_ne, bne_eq_false_iff_eq, Bool.and_eq_true, Bool.or_eq_true, Bool.and_eq_false_iff, Bool.or_eq_false_iff, inB] at g1'
        first | refine rl_val (gw_some rfl rfl g1) (ov_loadall 1 ag29 rfl rfl rfl) rfl ?_ | refine rl_val (gw_some rfl rfl g1) (ov_loadp 1 ag29 rfl rfl (vs := [_, _, _, _, _, _, _]) rfl rfl) rfl ?_ | refine rl_val (gw_some rfl rfl g1) (ov_loada 1 ag29 rfl rfl rfl (by assumption)) rfl ?_
        first | refine rl_val (gw_some rfl rfl g1) (ov_loadall 6 ag29 rfl rfl rfl) rfl ?_ | refine rl_val (gw_some rfl rfl g1) (ov_loadp 6 ag29 rfl rfl (vs := [_, _, _, _, _, _, _]) rfl rfl) rfl ?_ | refine rl_val (gw_some rfl rfl g1) (ov_loada 6 ag29 rfl rfl rfl (by assumption)) rfl ?_
        refine rl_callv (gw_some rfl rfl g1) goes19 rfl (fun w1 hp => eqMind_c _ _ _ _ _ _ _ _ _ _ _ _ _ _ (hp.slsr 2 rfl hsG1) (hp.slsr 3 rfl hsG2) (hp.slsr 4 rfl hsG3) (hp.slsr 7 rfl hsW1) (hp.slsr 8 rfl hsW2) (hp.slsr 9 rfl hsW3)) rfl ?_
        refine rl_val (gw_some rfl rfl g1) (ov_not rfl) rfl ?_
        refine rl_val gw_none (ov_pick_f rfl g1 rfl) rfl ?_
        refine rl_val gw_none (ov_move rfl) rfl ?_
        refine rl_val (gw_some rfl rfl rfl) (ov_move rfl) rfl ?_
        refine rl_val (gw_some rfl rfl rfl) (ov_move rfl) rfl ?_
        refine rl_val (gw_some rfl rfl rfl) (ov_neb Try.underlying4 rfl rfl) rfl ?_
        refine rl_val gw_none (ov_pick_f rfl rfl rfl) rfl ?_
        refine rl_nil ?_
        refine at_then ?_
        first | refine ct_dec rfl (fun h3 => ?_) (fun h3 => ?_) | refine ct_ndec rfl (fun h3 => ?_) (fun h3 => ?_) | refine ct_eq rfl (fun h3 => ?_) (fun h3 => ?_) | refine ct_ne rfl (fun h3 => ?_) (fun h3 => ?_) | refine ct_not rfl (fun h3 => ?_) (fun h3 => ?_) | refine ct_cond rfl (fun h3 => ?_) (fun h3 => ?_)
        ·
          exfalso; first | omega | exact absurd rfl h3 | (simp at h3; done) | (simp_all; done)
        ·
          refine ct_skip ?_
          refine at_then ?_
          refine ct_seq ?_
          refine ct_reg ?_
          refine rl_val gw_none (ov_assign rfl) rfl ?_
          refine rl_nil ?_
          refine at_then ?_
          refine ct_seq ?_
          refine ct_reg ?_
          first | refine rl_val gw_none (ov_loadall 1 ag29 rfl rfl rfl) rfl ?_ | refine rl_val gw_none (ov_loadp 1 ag29 rfl rfl (vs := [_, _, _, _, _, _, _]) rfl rfl) rfl ?_ | refine rl_val gw_none (ov_loada 1 ag29 rfl rfl rfl (by assumption)) rfl ?_
          refine rl_val gw_none (ov_move rfl) rfl ?_
          refine rl_calld (ι := Unit) (fun _ => .int .i64 (1 + 2 * (((nmR u l xs).xs.length : Nat) : Int) + 1 * (((nmR u l xs).cl.length : Nat) : Int) + 1 * (((nmR u l xs).im.length : Nat) : Int))) [_, _, _] [_, _, _, _, _, _, _, _, _] (fun _ => [(boG1, 81, ints (marks 1 (2 * (nmR u l xs).xs.length)) ++ (flat encIntA2 (nmR u l xs).xs ++ pG1).drop (2 * (nmR u l xs).xs.length)), (boG2, 3, ints (marks (1 + 2 * (((nmR u l xs).xs.length : Nat) : Int)) (1 * (nmR u l xs).cl.length)) ++ (ints (nmR u l xs).cl ++ pG2).drop (1 * (nmR u l xs).cl.length)), (boG3, 3, ints (marks (1 + 2 * (((nmR u l xs).xs.length : Nat) : Int) + 1 * (((nmR u l xs).cl.length : Nat) : Int)) (1 * (nmR u l xs).im.length)) ++ (ints (nmR u l xs).im ++ pG3).drop (1 * (nmR u l xs).im.length))]) (fun _ => True) gw_none goes22 rfl (fun _ hq => (((hq).pull 4 rfl).pull 4 rfl).pull 4 rfl) (fun w1 hp h0 => markMind_o _ _ _ hsG1 hsG2 hsG3 _ _ h0 (by omega)) rfl (fun _ _ => ?_)
          refine rl_val gw_none (ov_assign rfl) rfl ?_
          refine rl_nil ?_
          refine at_then ?_
          refine ct_seq ?_
          refine ct_reg ?_
          refine rl_val gw_none (ov_assign rfl) rfl ?_
          refine rl_nil ?_
          refine at_then ?_
          refine ct_seq ?_
          refine ct_reg ?_
          first | refine rl_val gw_none (ov_loadall 4 ag29 rfl rfl rfl) rfl ?_ | refine rl_val gw_none (ov_loadp 4 ag29 rfl rfl (vs := [_, _, _, _, _, _, _]) rfl rfl) rfl ?_ | refine rl_val gw_none (ov_loada 4 ag29 rfl rfl rfl (by assumption)) rfl ?_
          refine rl_val gw_none (ov_move rfl) rfl ?_
          refine rl_callv gw_none goes23 rfl (fun w1 hp => heldMind_c _ _ _ _ _ _ _ _ _ _ (hp.slsr 0 rfl (hsG1.marked _)) (hp.slsr 1 rfl (hsG2.marked _)) (hp.slsr 2 rfl (hsG3.marked _)) (by omega)) rfl ?_
          refine rl_val gw_none (ov_assign rfl) rfl ?_
          refine rl_nil ?_
          refine at_then ?_
          refine ct_seq ?_
          refine ct_seq ?_
          refine ct_reg ?_
          refine rl_val gw_none (ov_move rfl) rfl ?_
          refine rl_val gw_none (ov_lss rfl rfl) rfl ?_
          refine rl_nil ?_
          refine at_then ?_
          first | refine ct_dec rfl (fun h4 => ?_) (fun h4 => ?_) | refine ct_ndec rfl (fun h4 => ?_) (fun h4 => ?_) | refine ct_eq rfl (fun h4 => ?_) (fun h4 => ?_) | refine ct_ne rfl (fun h4 => ?_) (fun h4 => ?_) | refine ct_not rfl (fun h4 => ?_) (fun h4 => ?_) | refine ct_cond rfl (fun h4 => ?_) (fun h4 => ?_)
          ·
            exfalso; first | omega | exact absurd rfl h4 | (simp at h4; done) | (simp_all; done)
          ·
            refine ct_skip ?_
            refine at_then ?_
            refine ct_seq ?_
            refine ct_seq ?_
            refine ct_reg ?_
            refine rl_val gw_none (ov_move rfl) rfl ?_
            refine rl_val gw_none (ov_move rfl) rfl ?_
            refine rl_val gw_none (ov_neq rfl rfl) rfl ?_
            refine rl_nil ?_
            refine at_then ?_
            first | refine ct_dec rfl (fun h5 => ?_) (fun h5 => ?_) | refine ct_ndec rfl (fun h5 => ?_) (fun h5 => ?_) | refine ct_eq rfl (fun h5 => ?_) (fun h5 => ?_) | refine ct_ne rfl (fun h5 => ?_) (fun h5 => ?_) | refine ct_not rfl (fun h5 => ?_) (fun h5 => ?_) | refine ct_cond rfl (fun h5 => ?_) (fun h5 => ?_)
            ·
              exfalso; first | omega | exact absurd rfl h5 | (simp at h5; done) | (simp_all; done)
            ·
              refine ct_skip ?_
              refine at_then ?_
              refine ct_seq ?_
              refine ct_reg ?_
              first | refine rl_val gw_none (ov_loadall 11 ag24 rfl rfl rfl) rfl ?_ | refine rl_val gw_none (ov_loadp 11 ag24 rfl rfl (vs := [_, _, _]) rfl rfl) rfl ?_ | refine rl_val gw_none (ov_loada 11 ag24 rfl rfl rfl (by assumption)) rfl ?_
              refine rl_calle (ι := Nat) (fun q => .agg (List.toArray (α := Value) [.int .i64 u, .int .i64 l, .slice (some ⟨q, 0, none⟩) xs.length xs.length])) (fun q => [(some q, _, flat encIntA2 xs)]) (fun _ => True) goes17 rfl (fun w1 hp => toFrame_c u l xs _ _ zu zl hGxs (hsxs.ext hp.ext0) hbxs) rfl (fun qhxs _ => ?_)
              refine rl_calle (ι := (Option Nat × Nat × List Value) × (Option Nat × Nat × List Value) × (Option Nat × Nat × List Value)) (fun q => .tuple #[.agg (List.toArray (α := Value) [.int .i64 (nmR u l xs).u, .int .i64 (nmR u l xs).l, sv q.1.1 (nmR u l xs).xs.length q.1.2.1, sv q.2.1.1 (nmR u l xs).cl.length q.2.1.2.1, sv q.2.2.1 (nmR u l xs).im.length q.2.2.2.1, .int .i64 0, .int .i64 0]), .bool (goodB u l xs)]) (fun q => [(q.1.1, 81, flat encIntA2 (nmR u l xs).xs ++ q.1.2.2), (q.2.1.1, 3, ints (nmR u l xs).cl ++ q.2.1.2.2), (q.2.2.1, 3, ints (nmR u l xs).im ++ q.2.2.2.2)]) (fun q => Sl 2 q.1.1 (nmR u l xs).xs.length q.1.2.1 (flat encIntA2 (nmR u l xs).xs) q.1.2.2 ∧ Sl 1 q.2.1.1 (nmR u l xs).cl.length q.2.1.2.1 (ints (nmR u l xs).cl) q.2.1.2.2 ∧ Sl 1 q.2.2.1 (nmR u l xs).im.length q.2.2.2.1 (ints (nmR u l xs).im) q.2.2.2.2) goes18 rfl (fun w1 hp => iNewMind_c u l xs _ _ zu zl hGxs (hp.sr1 0 rfl (flat_length encIntA2_len _) hmxs)) rfl (fun qH hqH => ?_)
              obtain ⟨⟨boH1, cH1, pH1⟩, ⟨boH2, cH2, pH2⟩, ⟨boH3, cH3, pH3⟩⟩ := qH
              obtain ⟨hsH1, hsH2, hsH3⟩ := hqH
              dsimp only at hsH1 hsH2 hsH3
              try dsimp only
              refine rl_val gw_none (ov_move rfl) rfl ?_
              refine rl_val gw_none (ov_extract rfl rfl) rfl ?_
              refine rl_val gw_none (ov_extract rfl rfl) rfl ?_
              refine rl_alloc ze29 rfl (fun N5 => ?_)
              refine rl_store [] sz29 rfl rfl rfl rfl rfl (Nat.le_of_ble_eq_true rfl) ?_
              refine rl_val gw_none (ov_assign rfl) rfl ?_
              refine rl_nil ?_
              refine at_then ?_
              refine ct_seq ?_
              refine ct_seq ?_
              refine ct_reg ?_
              first | refine rl_val gw_none (ov_loadall 0 ag29 rfl rfl rfl) rfl ?_ | refine rl_val gw_none (ov_loadp 0 ag29 rfl rfl (vs := [_, _, _, _, _, _, _]) rfl rfl) rfl ?_ | refine rl_val gw_none (ov_loada 0 ag29 rfl rfl rfl (by assumption)) rfl ?_
              first | refine rl_val gw_none (ov_loadall 11 ag29 rfl rfl rfl) rfl ?_ | refine rl_val gw_none (ov_loadp 11 ag29 rfl rfl (vs := [_, _, _, _, _, _, _]) rfl rfl) rfl ?_ | refine rl_val gw_none (ov_loada 11 ag29 rfl rfl rfl (by assumption)) rfl ?_
              refine rl_callv gw_none goes19 rfl (fun w1 hp => eqMind_c _ _ _ _ _ _ _ _ _ _ _ _ _ _ (hp.slsr 1 rfl hsH1) (hp.slsr 2 rfl hsH2) (hp.slsr 3 rfl hsH3) (hp.slsr 12 rfl hsW1) (hp.slsr 13 rfl hsW2) (hp.slsr 14 rfl hsW3)) rfl ?_
              refine rl_val gw_none (ov_not rfl) rfl ?_
              refine rl_val gw_none (ov_move rfl) rfl ?_
              refine rl_val (gw_some rfl rfl rfl) (ov_move rfl) rfl ?_
              refine rl_val (gw_some rfl rfl rfl) (ov_move rfl) rfl ?_
              refine rl_val (gw_some rfl rfl rfl) (ov_neb Try.underlying4 rfl rfl) rfl ?_
              refine rl_val gw_none (ov_pick_f rfl rfl rfl) rfl ?_
              refine rl_nil ?_
              refine at_then ?_
              first | refine ct_dec rfl (fun h6 => ?_) (fun h6 => ?_) | refine ct_ndec rfl (fun h6 => ?_) (fun h6 => ?_) | refine ct_eq rfl (fun h6 => ?_) (fun h6 => ?_) | refine ct_ne rfl (fun h6 => ?_) (fun h6 => ?_) | refine ct_not rfl (fun h6 => ?_) (fun h6 => ?_) | refine ct_cond rfl (fun h6 => ?_) (fun h6 => ?_)
              ·
                exfalso; first | omega | exact absurd rfl h6 | (simp at h6; done) | (simp_all; done)
              ·
                refine ct_skip ?_
                refine at_then ?_
                refine ct_seq ?_
                refine ct_reg ?_
                refine rl_val gw_none (ov_assign rfl) rfl ?_
                refine rl_nil ?_
                refine at_then ?_
                refine ct_seq ?_
                refine ct_reg ?_
                first | refine rl_val gw_none (ov_loadall 9 ag29 rfl rfl rfl) rfl ?_ | refine rl_val gw_none (ov_loadp 9 ag29 rfl rfl (vs := [_, _, _, _, _, _, _]) rfl rfl) rfl ?_ | refine rl_val gw_none (ov_loada 9 ag29 rfl rfl rfl (by assumption)) rfl ?_
                refine rl_val gw_none (ov_move rfl) rfl ?_
                refine rl_callv gw_none goes23 rfl (fun w1 hp => heldMind_c _ _ _ _ _ _ _ _ _ _ (hp.slsr 5 rfl (hsG1.marked _)) (hp.slsr 6 rfl (hsG2.marked _)) (hp.slsr 7 rfl (hsG3.marked _)) (by omega)) rfl ?_
                refine rl_val gw_none (ov_assign rfl) rfl ?_
                refine rl_nil ?_
                refine at_then ?_
                refine ct_seq ?_
                refine ct_seq ?_
                refine ct_reg ?_
                refine rl_val gw_none (ov_move rfl) rfl ?_
                refine rl_val gw_none (ov_lss rfl rfl) rfl ?_
                refine rl_nil ?_
                refine at_then ?_
                first | refine ct_dec rfl (fun h7 => ?_) (fun h7 => ?_) | refine ct_ndec rfl (fun h7 => ?_) (fun h7 => ?_) | refine ct_eq rfl (fun h7 => ?_) (fun h7 => ?_) | refine ct_ne rfl (fun h7 => ?_) (fun h7 => ?_) | refine ct_not rfl (fun h7 => ?_) (fun h7 => ?_) | refine ct_cond rfl (fun h7 => ?_) (fun h7 => ?_)
                ·
                  exfalso; first | omega | exact absurd rfl h7 | (simp at h7; done) | (simp_all; done)
                ·
                  refine ct_skip ?_
                  refine at_then ?_
                  refine ct_seq ?_
                  refine ct_seq ?_
                  refine ct_reg ?_
                  refine rl_val gw_none (ov_move rfl) rfl ?_
                  refine rl_val gw_none (ov_move rfl) rfl ?_
                  refine rl_val gw_none (ov_neq rfl rfl) rfl ?_
                  refine rl_nil ?_
                  refine at_then ?_
                  first | refine ct_dec rfl (fun h8 => ?_) (fun h8 => ?_) | refine ct_ndec rfl (fun h8 => ?_) (fun h8 => ?_) | refine ct_eq rfl (fun h8 => ?_) (fun h8 => ?_) | refine ct_ne rfl (fun h8 => ?_) (fun h8 => ?_) | refine ct_not rfl (fun h8 => ?_) (fun h8 => ?_) | refine ct_cond rfl (fun h8 => ?_) (fun h8 => ?_)
                  ·
                    exfalso; first | omega | exact absurd rfl h8 | (simp at h8; done) | (simp_all; done)
                  ·
                    refine ct_skip ?_
                    refine at_then ?_
                    refine ct_seq ?_
                    refine ct_reg ?_
                    refine rl_val gw_none (ov_assign rfl) rfl ?_
                    refine rl_nil ?_
                    refine at_then ?_
                    refine ct_ret ?_
                    refine at_ret1 Try.results3 (ro_tmp rfl) (fun w1 hp => ?_)
                    exact ⟨rfl, hp.ext0⟩
end Go.Proofs.Ytnnhkpecgchgiaa
