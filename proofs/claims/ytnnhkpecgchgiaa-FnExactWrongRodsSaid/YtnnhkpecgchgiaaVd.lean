import Derived.Test.YtnnhkpecgchgiaaVc
import Derived.KernelRfl
set_option linter.unusedVariables false
set_option linter.unusedSimpArgs false
namespace Go.Proofs.Ytnnhkpecgchgiaa
open Go Go.RowKit K
theorem law_WrongRods (u : Int) (l : Int) (xs : List IntA2) (cl : List Int) (im : List Int) (be : Int) (gu : Int) (vxs : Value) (vcl : Value) (vim : Value) (w : World) (zu : In64 u) (zl : In64 l) (hGxs : ∀ y ∈ xs, GIntA2 y) (hsxs : SR w 2 vxs xs.length (flat encIntA2 xs)) (hscl : SR w 1 vcl cl.length (ints cl)) (hsim : SR w 1 vim im.length (ints im)) (zbe : In64 be) (zgu : In64 gu) : Calls Try.prog 4 ([.agg (List.toArray (α := Value) [.int .i64 u, .int .i64 l, vxs, vcl, vim, .int .i64 be, .int .i64 gu])]).toArray w (fun e w' => e = .returned (.bool true) ∧ Ext w w') := by
  have hlenxs := hsxs.len_le
  have hlencl := hscl.len_le
  have hlenim := hsim.len_le
  have hrl := wrgR_len (mindB u l xs cl im be gu) im xs
  refine calls_ct Try.func4 Try.ntmps4 rfl rfl ?_
  refine ct_seq ?_
  refine ct_reg ?_
  refine rl_box rfl rfl (fun N1 => ?_)
  refine rl_val gw_none (ov_assign rfl) rfl ?_
  refine rl_nil ?_
  refine at_then ?_
  refine ct_seq ?_
  refine ct_reg ?_
  refine rl_val gw_none (ov_assign rfl) rfl ?_
  refine rl_nil ?_
  refine at_then ?_
  refine ct_seq ?_
  refine ct_reg ?_
  first | refine rl_val gw_none (ov_loadall 0 ag39 rfl rfl rfl) rfl ?_ | refine rl_val gw_none (ov_loadp 0 ag39 rfl rfl (vs := [_, _, _, _, _, _, _]) rfl rfl) rfl ?_ | refine rl_val gw_none (ov_loada 0 ag39 rfl rfl rfl (by assumption)) rfl ?_
  refine rl_val gw_none (ov_move rfl) rfl ?_
  refine rl_callx (ι := Int) (fun r => .int .i64 r) (fun r => r < 0 ∨ (0 ≤ r ∧ r ≤ 1048576 - xs.length - cl.length - im.length)) gw_none goes24 rfl (fun w1 hp => szMind_c 1048576 u l xs cl im be gu _ _ _ _ zu zl hGxs (hsxs.ext hp.ext0) (hscl.ext hp.ext0) (hsim.ext hp.ext0) zbe zgu (by omega)) rfl (fun rxs hrxs => ?_)
  refine rl_val gw_none (ov_assign rfl) rfl ?_
  refine rl_nil ?_
  refine at_then ?_
  refine ct_seq ?_
  refine ct_seq ?_
  refine ct_reg ?_
  refine rl_val gw_none (ov_move rfl) rfl ?_
  refine rl_val gw_none (ov_lss rfl rfl) rfl ?_
  refine rl_nil ?_
  refine at_then ?_
  first | refine ct_dec rfl (fun h1 => ?_) (fun h1 => ?_) | refine ct_ndec rfl (fun h1 => ?_) (fun h1 => ?_) | refine ct_eq rfl (fun h1 => ?_) (fun h1 => ?_) | refine ct_ne rfl (fun h1 => ?_) (fun h1 => ?_) | refine ct_not rfl (fun h1 => ?_) (fun h1 => ?_) | refine ct_cond rfl (fun h1 => ?_) (fun h1 => ?_)
  ·
    refine ct_seq ?_
    refine ct_reg ?_
    refine rl_val gw_none (ov_assign rfl) rfl ?_
    refine rl_nil ?_
    refine at_then ?_
    refine ct_ret ?_
    refine at_then_ret ?_
    refine at_ret1 Try.results4 (ro_tmp rfl) (fun w1 hp => ?_)
    exact ⟨rfl, hp.ext0⟩
  ·
    have hbxs : xs.length ≤ 1048576 := by omega
    have hmxs : xs.length ≤ maxLen := by unfold maxLen; omega
    have hbcl : cl.length ≤ 1048576 := by omega
    have hmcl : cl.length ≤ maxLen := by unfold maxLen; omega
    have hbim : im.length ≤ 1048576 := by omega
    have hmim : im.length ≤ maxLen := by unfold maxLen; omega
    refine ct_skip ?_
    refine at_then ?_
    refine ct_seq ?_
    refine ct_reg ?_
    first | refine rl_val gw_none (ov_loadall 0 ag39 rfl rfl rfl) rfl ?_ | refine rl_val gw_none (ov_loadp 0 ag39 rfl rfl (vs := [_, _, _, _, _, _, _]) rfl rfl) rfl ?_ | refine rl_val gw_none (ov_loada 0 ag39 rfl rfl rfl (by assumption)) rfl ?_
    refine rl_calle (ι := Nat × Nat × Nat) (fun q => .agg (List.toArray (α := Value) [.int .i64 u, .int .i64 l, .slice (some ⟨q.1, 0, none⟩) xs.length xs.length, .slice (some ⟨q.2.1, 0, none⟩) cl.length cl.length, .slice (some ⟨q.2.2, 0, none⟩) im.length im.length, .int .i64 be, .int .i64 gu])) (fun q => [(some q.1, _, flat encIntA2 xs), (some q.2.1, _, ints cl), (some q.2.2, _, ints im)]) (fun _ => True) goes26 rfl (fun w1 hp => toMind_c u l xs cl im be gu _ _ _ _ zu zl hGxs (hsxs.ext hp.ext0) (hscl.ext hp.ext0) (hsim.ext hp.ext0) zbe zgu hbxs hbcl hbim) rfl (fun qwxs _ => ?_)
    refine rl_callsl (ι := Nat × List Value) (fun i bo => .tuple #[(sv bo ((wrgR (mindB u l xs cl im be gu) im xs).length) i.1), .bool (mindB u l xs cl im be gu)]) (fun i => ints (wrgR (mindB u l xs cl im be gu) im xs) ++ i.2) (fun i bo => Sl 1 bo ((wrgR (mindB u l xs cl im be gu) im xs).length) i.1 (ints (wrgR (mindB u l xs cl im be gu) im xs)) i.2) goes25 rfl (fun w1 hp => sWrongRods_c u l xs cl im be gu _ _ _ _ zu zl hGxs (hp.sr1 0 rfl (flat_length encIntA2_len _) hmxs) (hp.sr1 1 rfl (by rw [ints_length, Nat.mul_one]) hmcl) (hp.sr1 2 rfl (by rw [ints_length, Nat.mul_one]) hmim) zbe zgu) rfl (fun iW0 boW0 hsW0 => ?_)
    refine rl_val gw_none (ov_move rfl) rfl ?_
    refine rl_val gw_none (ov_extract rfl rfl) rfl ?_
    refine rl_val gw_none (ov_extract rfl rfl) rfl ?_
    refine rl_val gw_none (ov_assign rfl) rfl ?_
    refine rl_val gw_none (ov_assign rfl) rfl ?_
    refine rl_nil ?_
    refine at_then ?_
    refine ct_seq ?_
    refine ct_reg ?_
    first | refine rl_val gw_none (ov_loadall 4 ag39 rfl rfl rfl) rfl ?_ | refine rl_val gw_none (ov_loadp 4 ag39 rfl rfl (vs := [_, _, _, _, _, _, _]) rfl rfl) rfl ?_ | refine rl_val gw_none (ov_loada 4 ag39 rfl rfl rfl (by assumption)) rfl ?_
    refine rl_calle (ι := Nat × Nat × Nat) (fun q => .agg (List.toArray (α := Value) [.int .i64 u, .int .i64 l, .slice (some ⟨q.1, 0, none⟩) xs.length xs.length, .slice (some ⟨q.2.1, 0, none⟩) cl.length cl.length, .slice (some ⟨q.2.2, 0, none⟩) im.length im.length, .int .i64 be, .int .i64 gu])) (fun q => [(some q.1, _, flat encIntA2 xs), (some q.2.1, _, ints cl), (some q.2.2, _, ints im)]) (fun _ => True) goes26 rfl (fun w1 hp => toMind_c u l xs cl im be gu _ _ _ _ zu zl hGxs (hsxs.ext hp.ext0) (hscl.ext hp.ext0) (hsim.ext hp.ext0) zbe zgu hbxs hbcl hbim) rfl (fun qxxs _ => ?_)
    refine rl_alloc ze29 rfl (fun N2 => ?_)
    refine rl_store [] sz29 rfl rfl rfl rfl rfl (Nat.le_of_ble_eq_true rfl) ?_
    refine rl_nil ?_
    refine at_then ?_
    refine ct_seq ?_
    refine ct_reg ?_
    first | refine rl_val gw_none (ov_loadall 0 ag29 rfl rfl rfl) rfl ?_ | refine rl_val gw_none (ov_loadp 0 ag29 rfl rfl (vs := [_, _, _, _, _, _, _]) rfl rfl) rfl ?_ | refine rl_val gw_none (ov_loada 0 ag29 rfl rfl rfl (by assumption)) rfl ?_
    refine rl_callsl (ι := Nat × List Value) (fun i bo => .tuple #[(sv bo ((wrgR (mindB u l xs cl im be gu) im xs).length) i.1), .bool (mindB u l xs cl im be gu)]) (fun i => ints (wrgR (mindB u l xs cl im be gu) im xs) ++ i.2) (fun i bo => Sl 1 bo ((wrgR (mindB u l xs cl im be gu) im xs).length) i.1 (ints (wrgR (mindB u l xs cl im be gu) im xs)) i.2) goes27 rfl (fun w1 hp => iWrongRods_c u l xs cl im be gu _ _ _ _ zu zl hGxs (hp.sr1 1 rfl (flat_length encIntA2_len _) hmxs) (hp.sr1 2 rfl (by rw [ints_length, Nat.mul_one]) hmcl) (hp.sr1 3 rfl (by rw [ints_length, Nat.mul_one]) hmim) zbe zgu) rfl (fun iG0 boG0 hsG0 => ?_)
    refine rl_val gw_none (ov_move rfl) rfl ?_
    refine rl_val gw_none (ov_extract rfl rfl) rfl ?_
    refine rl_val gw_none (ov_extract rfl rfl) rfl ?_
    refine rl_val gw_none (ov_assign rfl) rfl ?_
    refine rl_val gw_none (ov_assign rfl) rfl ?_
    refine rl_nil ?_
    refine at_then ?_
    refine ct_seq ?_
    refine ct_seq ?_
    refine ct_reg ?_
    refine rl_val gw_none (ov_move rfl) rfl ?_
    refine rl_val gw_none (ov_move rfl) rfl ?_
    refine rl_callv gw_none goes28 rfl (fun w1 hp => eqIntS_c _ _ _ _ (hp.slsr 0 rfl hsG0) (hp.slsr 5 rfl hsW0)) rfl ?_
    refine rl_val gw_none (ov_not rfl) rfl ?_
    refine rl_val gw_none (ov_move rfl) rfl ?_
    refine rl_val (gw_some rfl rfl rfl) (ov_move rfl) rfl ?_
    refine rl_val (gw_some rfl rfl rfl) (ov_move rfl) rfl ?_
    refine rl_val (gw_some rfl rfl rfl) (ov_neb Try.underlying4 rfl rfl) rfl ?_
    refine rl_val gw_none (ov_pick_f rfl rfl rfl) rfl ?_
    refine rl_nil ?_
    refine at_then ?_
    first | refine ct_dec rfl (fun h2 => ?_) (fun h2 => ?_) | refine ct_ndec rfl (fun h2 => ?_) (fun h2 => ?_) | refine ct_eq rfl (fun h2 => ?_) (fun h2 => ?_) | refine ct_ne rfl (fun h2 => ?_) (fun h2 => ?_) | refine ct_not rfl (fun h2 => ?_) (fun h2 => ?_) | refine ct_cond rfl (fun h2 => ?_) (fun h2 => ?_)
    ·
      exfalso; first | omega | exact absurd rfl h2 | (simp at h2; done) | (simp_all; done)
    ·
      refine ct_skip ?_
      refine at_then ?_
      refine ct_seq ?_
      refine ct_seq ?_
      refine ct_dre 3 [0, 1, 2, 3, 4] [2] (by kernel_rfl) (by kernel_rfl) ?_
      first | refine qe_val rfl gw_none (ov_loadall 1 ag29 rfl rfl rfl) rfl ?_ | refine qe_val rfl gw_none (ov_loadp 1 ag29 rfl rfl (vs := [_, _, _, _, _, _, _]) rfl rfl) rfl ?_ | refine qe_val rfl gw_none (ov_loada 1 ag29 rfl rfl rfl (by assumption)) rfl ?_
      first | refine qe_val rfl gw_none (ov_loadall 9 ag39 rfl rfl rfl) rfl ?_ | refine qe_val rfl gw_none (ov_loadp 9 ag39 rfl rfl (vs := [_, _, _, _, _, _, _]) rfl rfl) rfl ?_ | refine qe_val rfl gw_none (ov_loada 9 ag39 rfl rfl rfl (by assumption)) rfl ?_
      refine qe_calle (ι := Nat × Nat × Nat) (fun q => .agg (List.toArray (α := Value) [.int .i64 u, .int .i64 l, .slice (some ⟨q.1, 0, none⟩) xs.length xs.length, .slice (some ⟨q.2.1, 0, none⟩) cl.length cl.length, .slice (some ⟨q.2.2, 0, none⟩) im.length im.length, .int .i64 be, .int .i64 gu])) (fun q => [(some q.1, _, flat encIntA2 xs), (some q.2.1, _, ints cl), (some q.2.2, _, ints im)]) (fun _ => True) rfl goes26 rfl (fun w1 hp => toMind_c u l xs cl im be gu _ _ _ _ zu zl hGxs (hsxs.ext hp.ext0) (hscl.ext hp.ext0) (hsim.ext hp.ext0) zbe zgu hbxs hbcl hbim) rfl (fun qcxs _ => ?_)
      refine qe_nil ?_
      refine rl_callv gw_none goes19 rfl (fun w1 hp => eqMind_c u l xs cl im be gu _ _ _ _ _ _ _  (hp.sr1 5 rfl (flat_length encIntA2_len _) hmxs) (hp.sr1 6 rfl (by rw [ints_length, Nat.mul_one]) hmcl) (hp.sr1 7 rfl (by rw [ints_length, Nat.mul_one]) hmim) (hp.sr1 0 rfl (flat_length encIntA2_len _) hmxs) (hp.sr1 1 rfl (by rw [ints_length, Nat.mul_one]) hmcl) (hp.sr1 2 rfl (by rw [ints_length, Nat.mul_one]) hmim)) rfl ?_
      refine rl_val gw_none (ov_not rfl) rfl ?_
      refine rl_nil ?_
      refine at_then ?_
      refine ct_false rfl rfl ?_
      refine ct_skip ?_
      refine at_then ?_
      refine ct_seq ?_
      refine ct_reg ?_
      refine rl_val gw_none (ov_assign rfl) rfl ?_
      refine rl_nil ?_
      refine at_then ?_
      refine ct_seq ?_
      refine ct_reg ?_
      first | refine rl_val gw_none (ov_loadall 4 ag29 rfl rfl rfl) rfl ?_ | refine rl_val gw_none (ov_loadp 4 ag29 rfl rfl (vs := [_, _, _, _, _, _, _]) rfl rfl) rfl ?_ | refine rl_val gw_none (ov_loada 4 ag29 rfl rfl rfl (by assumption)) rfl ?_
      refine rl_val gw_none (ov_move rfl) rfl ?_
      refine rl_calld (ι := Unit) (fun _ => .int .i64 (1 + 2 * (xs.length : Nat) + 1 * (cl.length : Nat) + 1 * (im.length : Nat))) [_, _, _] [_, _, _, _, _, _, _, _, _, _] (fun _ => []) (fun _ => True) gw_none goes22 rfl (fun _ hq => (((hq).pull 7 rfl).pull 7 rfl).pull 7 rfl) (fun w1 hp h0 => markMind_m u l be gu _ _ _ _ _ _ _ _ _ _ _ _ _ _ _ h0 (flat_length encIntA2_len _) (by rw [ints_length, Nat.mul_one]) (by rw [ints_length, Nat.mul_one]) (by omega)) rfl (fun _ _ => ?_)
      refine rl_val gw_none (ov_assign rfl) rfl ?_
      refine rl_nil ?_
      refine at_then ?_
      refine ct_seq ?_
      refine ct_seq ?_
      refine ct_reg ?_
      refine rl_val gw_none (ov_move rfl) rfl ?_
      refine rl_val gw_none (ov_lss rfl rfl) rfl ?_
      refine rl_val gw_none (ov_move rfl) rfl ?_
      refine rl_split (t := 51) rfl (fun g1 => ?_) (fun g1 => ?_)
      ·
        exfalso; first | (simp at g1; omega) | (simp at g1; done) | (simp_all; done)
      ·
        have g1' := g1
        try simp only [Bool.not_eq_true', Bool.not_eq_false', Bool.not_not, decide_eq_true_eq, decide_eq_false_iff_not, beq_iff_eq, beq_eq_false_iff_ne, bne_iff_ne, bne_eq_false_iff_eq, Bool.and_eq_true, Bool.or_eq_true, Bool.and_eq_false_iff, Bool.or_eq_false_iff, inB] at g1'
        refine rl_val (gw_some rfl rfl g1) (ov_move rfl) rfl ?_
        refine rl_val (gw_some rfl rfl g1) (ov_move rfl) rfl ?_
        refine rl_callv (gw_some rfl rfl g1) goes28 rfl (fun w1 hp => eqIntS_c _ _ _ _ (hp.slsr 3 rfl hsG0) (hp.slsr 5 rfl hsW0)) rfl ?_
        refine rl_val (gw_some rfl rfl g1) (ov_not rfl) rfl ?_
        refine rl_val gw_none (ov_pick_f rfl g1 rfl) rfl ?_
        refine rl_val gw_none (ov_move rfl) rfl ?_
        refine rl_val (gw_some rfl rfl rfl) (ov_move rfl) rfl ?_
        refine rl_val (gw_some rfl rfl rfl) (ov_move rfl) rfl ?_
        refine rl_val (gw_some rfl rfl rfl) (ov_neb Try.underlying4 rfl rfl) rfl ?_
        refine rl_val gw_none (ov_pick_f rfl rfl rfl) rfl ?_
        refine rl_nil ?_
        refine at_then ?_
        first | refine ct_dec rfl (fun h3 => ?_) (fun h3 => ?_) | refine ct_ndec rfl (fun h3 => ?_) (fun h3 => ?_) | refine ct_eq rfl (fun h3 => ?_) (fun h3 => ?_) | refine ct_ne rfl (fun h3 => ?_) (fun h3 => ?_) | refine ct_not rfl (fun h3 => ?_) (fun h3 => ?_) | refine ct_cond rfl (fun h3 => ?_) (fun h3 => ?_)
        ·
          exfalso; first | omega | exact absurd rfl h3 | (simp at h3; done) | (simp_all; done)
        ·
          refine ct_skip ?_
          refine at_then ?_
          refine ct_seq ?_
          refine ct_reg ?_
          refine rl_val gw_none (ov_assign rfl) rfl ?_
          refine rl_nil ?_
          refine at_then ?_
          refine ct_seq ?_
          refine ct_reg ?_
          refine rl_val gw_none (ov_move rfl) rfl ?_
          refine rl_val gw_none (ov_move rfl) rfl ?_
          refine rl_callwo [_, _, _] goes29 rfl rfl (fun w1 hp => markIntS_o  _ hsG0 _ (hp.atO 3 rfl) (by omega)) rfl ?_
          refine rl_val gw_none (ov_assign rfl) rfl ?_
          refine rl_nil ?_
          refine at_then ?_
          refine ct_seq ?_
          refine ct_reg ?_
          refine rl_val gw_none (ov_assign rfl) rfl ?_
          refine rl_nil ?_
          refine at_then ?_
          refine ct_seq ?_
          refine ct_reg ?_
          refine rl_val gw_none (ov_move rfl) rfl ?_
          refine rl_val gw_none (ov_move rfl) rfl ?_
          refine rl_callv gw_none goes30 rfl (fun w1 hp => heldIntS_c  _ _ _ _ (hp.slsr 3 rfl (hsG0.marked _)) (by omega)) rfl ?_
          refine rl_val gw_none (ov_assign rfl) rfl ?_
          refine rl_nil ?_
          refine at_then ?_
          refine ct_seq ?_
          refine ct_seq ?_
          refine ct_reg ?_
          refine rl_val gw_none (ov_move rfl) rfl ?_
          refine rl_val gw_none (ov_lss rfl rfl) rfl ?_
          refine rl_nil ?_
          refine at_then ?_
          first | refine ct_dec rfl (fun h4 => ?_) (fun h4 => ?_) | refine ct_ndec rfl (fun h4 => ?_) (fun h4 => ?_) | refine ct_eq rfl (fun h4 => ?_) (fun h4 => ?_) | refine ct_ne rfl (fun h4 => ?_) (fun h4 => ?_) | refine ct_not rfl (fun h4 => ?_) (fun h4 => ?_) | refine ct_cond rfl (fun h4 => ?_) (fun h4 => ?_)
          ·
            exfalso; first | omega | exact absurd rfl h4 | (simp at h4; done) | (simp_all; done)
          ·
            refine ct_skip ?_
            refine at_then ?_
            refine ct_seq ?_
            refine ct_seq ?_
            refine ct_reg ?_
            refine rl_val gw_none (ov_move rfl) rfl ?_
            refine rl_val gw_none (ov_move rfl) rfl ?_
            refine rl_val gw_none (ov_neq rfl rfl) rfl ?_
            refine rl_nil ?_
            refine at_then ?_
            first | refine ct_dec rfl (fun h5 => ?_) (fun h5 => ?_) | refine ct_ndec rfl (fun h5 => ?_) (fun h5 => ?_) | refine ct_eq rfl (fun h5 => ?_) (fun h5 => ?_) | refine ct_ne rfl (fun h5 => ?_) (fun h5 => ?_) | refine ct_not rfl (fun h5 => ?_) (fun h5 => ?_) | refine ct_cond rfl (fun h5 => ?_) (fun h5 => ?_)
            ·
              exfalso; first | omega | exact absurd rfl h5 | (simp at h5; done) | (simp_all; done)
            ·
              refine ct_skip ?_
              refine at_then ?_
              refine ct_seq ?_
              refine ct_reg ?_
              first | refine rl_val gw_none (ov_loadall 9 ag39 rfl rfl rfl) rfl ?_ | refine rl_val gw_none (ov_loadp 9 ag39 rfl rfl (vs := [_, _, _, _, _, _, _]) rfl rfl) rfl ?_ | refine rl_val gw_none (ov_loada 9 ag39 rfl rfl rfl (by assumption)) rfl ?_
              refine rl_calle (ι := Nat × Nat × Nat) (fun q => .agg (List.toArray (α := Value) [.int .i64 u, .int .i64 l, .slice (some ⟨q.1, 0, none⟩) xs.length xs.length, .slice (some ⟨q.2.1, 0, none⟩) cl.length cl.length, .slice (some ⟨q.2.2, 0, none⟩) im.length im.length, .int .i64 be, .int .i64 gu])) (fun q => [(some q.1, _, flat encIntA2 xs), (some q.2.1, _, ints cl), (some q.2.2, _, ints im)]) (fun _ => True) goes26 rfl (fun w1 hp => toMind_c u l xs cl im be gu _ _ _ _ zu zl hGxs (hsxs.ext hp.ext0) (hscl.ext hp.ext0) (hsim.ext hp.ext0) zbe zgu hbxs hbcl hbim) rfl (fun qhxs _ => ?_)
              refine rl_callsl (ι := Nat × List Value) (fun i bo => .tuple #[(sv bo ((wrgR (mindB u l xs cl im be gu) im xs).length) i.1), .bool (mindB u l xs cl im be gu)]) (fun i => ints (wrgR (mindB u l xs cl im be gu) im xs) ++ i.2) (fun i bo => Sl 1 bo ((wrgR (mindB u l xs cl im be gu) im xs).length) i.1 (ints (wrgR (mindB u l xs cl im be gu) im xs)) i.2) goes27 rfl (fun w1 hp => iWrongRods_c u l xs cl im be gu _ _ _ _ zu zl hGxs (hp.sr1 0 rfl (flat_length encIntA2_len _) hmxs) (hp.sr1 1 rfl (by rw [ints_length, Nat.mul_one]) hmcl) (hp.sr1 2 rfl (by rw [ints_length, Nat.mul_one]) hmim) zbe zgu) rfl (fun iH0 boH0 hsH0 => ?_)
              refine rl_val gw_none (ov_move rfl) rfl ?_
              refine rl_val gw_none (ov_extract rfl rfl) rfl ?_
              refine rl_val gw_none (ov_extract rfl rfl) rfl ?_
              refine rl_val gw_none (ov_assign rfl) rfl ?_
              refine rl_val gw_none (ov_assign rfl) rfl ?_
              refine rl_nil ?_
              refine at_then ?_
              refine ct_seq ?_
              refine ct_seq ?_
              refine ct_reg ?_
              refine rl_val gw_none (ov_move rfl) rfl ?_
              refine rl_val gw_none (ov_move rfl) rfl ?_
              refine rl_callv gw_none goes28 rfl (fun w1 hp => eqIntS_c _ _ _ _ (hp.slsr 0 rfl hsH0) (hp.slsr 9 rfl hsW0)) rfl ?_
              refine rl_val gw_none (ov_not rfl) rfl ?_
              refine rl_val gw_none (ov_move rfl) rfl ?_
              refine rl_val (gw_some rfl rfl rfl) (ov_move rfl) rfl ?_
              refine rl_val (gw_some rfl rfl rfl) (ov_move rfl) rfl ?_
              refine rl_val (gw_some rfl rfl rfl) (ov_neb Try.underlying4 rfl rfl) rfl ?_
              refine rl_val gw_none (ov_pick_f rfl rfl rfl) rfl ?_
              refine rl_nil ?_
              refine at_then ?_
              first | refine ct_dec rfl (fun h6 => ?_) (fun h6 => ?_) | refine ct_ndec rfl (fun h6 => ?_) (fun h6 => ?_) | refine ct_eq rfl (fun h6 => ?_) (fun h6 => ?_) | refine ct_ne rfl (fun h6 => ?_) (fun h6 => ?_) | refine ct_not rfl (fun h6 => ?_) (fun h6 => ?_) | refine ct_cond rfl (fun h6 => ?_) (fun h6 => ?_)
              ·
                exfalso; first | omega | exact absurd rfl h6 | (simp at h6; done) | (simp_all; done)
              ·
                refine ct_skip ?_
                refine at_then ?_
                refine ct_seq ?_
                refine ct_reg ?_
                refine rl_val gw_none (ov_assign rfl) rfl ?_
                refine rl_nil ?_
                refine at_then ?_
                refine ct_seq ?_
                refine ct_reg ?_
                refine rl_val gw_none (ov_move rfl) rfl ?_
                refine rl_val gw_none (ov_move rfl) rfl ?_
                refine rl_callv gw_none goes30 rfl (fun w1 hp => heldIntS_c  _ _ _ _ (hp.slsr 7 rfl (hsG0.marked _)) (by omega)) rfl ?_
                refine rl_val gw_none (ov_assign rfl) rfl ?_
                refine rl_nil ?_
                refine at_then ?_
                refine ct_seq ?_
                refine ct_seq ?_
                refine ct_reg ?_
                refine rl_val gw_none (ov_move rfl) rfl ?_
                refine rl_val gw_none (ov_lss rfl rfl) rfl ?_
                refine rl_nil ?_
                refine at_then ?_
                first | refine ct_dec rfl (fun h7 => ?_) (fun h7 => ?_) | refine ct_ndec rfl (fun h7 => ?_) (fun h7 => ?_) | refine ct_eq rfl (fun h7 => ?_) (fun h7 => ?_) | refine ct_ne rfl (fun h7 => ?_) (fun h7 => ?_) | refine ct_not rfl (fun h7 => ?_) (fun h7 => ?_) | refine ct_cond rfl (fun h7 => ?_) (fun h7 => ?_)
                ·
                  exfalso; first | omega | exact absurd rfl h7 | (simp at h7; done) | (simp_all; done)
                ·
                  refine ct_skip ?_
                  refine at_then ?_
                  refine ct_seq ?_
                  refine ct_seq ?_
                  refine ct_reg ?_
                  refine rl_val gw_none (ov_move rfl) rfl ?_
                  refine rl_val gw_none (ov_move rfl) rfl ?_
                  refine rl_val gw_none (ov_neq rfl rfl) rfl ?_
                  refine rl_nil ?_
                  refine at_then ?_
                  first | refine ct_dec rfl (fun h8 => ?_) (fun h8 => ?_) | refine ct_ndec rfl (fun h8 => ?_) (fun h8 => ?_) | refine ct_eq rfl (fun h8 => ?_) (fun h8 => ?_) | refine ct_ne rfl (fun h8 => ?_) (fun h8 => ?_) | refine ct_not rfl (fun h8 => ?_) (fun h8 => ?_) | refine ct_cond rfl (fun h8 => ?_) (fun h8 => ?_)
                  ·
                    exfalso; first | omega | exact absurd rfl h8 | (simp at h8; done) | (simp_all; done)
                  ·
                    refine ct_skip ?_
                    refine at_then ?_
                    refine ct_seq ?_
                    refine ct_reg ?_
                    refine rl_val gw_none (ov_assign rfl) rfl ?_
                    refine rl_nil ?_
                    refine at_then ?_
                    refine ct_ret ?_
                    refine at_ret1 Try.results4 (ro_tmp rfl) (fun w1 hp => ?_)
                    exact ⟨rfl, hp.ext0⟩
end Go.Proofs.Ytnnhkpecgchgiaa
