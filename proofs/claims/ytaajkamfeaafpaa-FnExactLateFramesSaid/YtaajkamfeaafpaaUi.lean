import Derived.Test.YtaajkamfeaafpaaUh
import Derived.KernelRfl
set_option linter.unusedVariables false
set_option linter.unusedSimpArgs false
namespace Go.Proofs.Ytaajkamfeaafpaa
open Go Go.RowKit K
theorem law_LateFrames (ws : List Wood) (xs : List Repair) (mi : Int) (vws : Value) (vxs : Value) (w : World) (hGws : ∀ y ∈ ws, GWood y) (hsws : SR w 3 vws ws.length (flat encWood ws)) (hGxs : ∀ y ∈ xs, GRepair y) (hsxs : SR w 5 vxs xs.length (flat encRepair xs)) (zmi : In64 mi) : Calls Try.prog 5 ([vws, vxs, .int .i64 mi]).toArray w (fun e w' => e = .returned (.bool true) ∧ Ext w w') := by
  have hlenws := hsws.len_le
  have hlenxs := hsxs.len_le
  have hrl := lateR_len ws xs mi
  refine calls_ct Try.func5 Try.ntmps5 rfl rfl ?_
  refine ct_seq ?_
  refine ct_reg ?_
  refine rl_val gw_none (ov_assign rfl) rfl ?_
  refine rl_nil ?_
  refine at_then ?_
  refine ct_seq ?_
  refine ct_reg ?_
  refine rl_val gw_none (ov_assign rfl) rfl ?_
  refine rl_nil ?_
  refine at_then ?_
  refine ct_seq ?_
  refine ct_reg ?_
  refine rl_val gw_none (ov_move rfl) rfl ?_
  refine rl_val gw_none (ov_move rfl) rfl ?_
  refine rl_callx (ι := Int) (fun r => .int .i64 r) (fun r => r < 0 ∨ (0 ≤ r ∧ r ≤ 1048576 - ws.length)) gw_none goes15 rfl (fun w1 hp => szWoodS_c ws 1048576 _ _ hGws (hsws.ext hp.ext0) (by omega)) rfl (fun rws hrws => ?_)
  refine rl_val gw_none (ov_assign rfl) rfl ?_
  refine rl_nil ?_
  refine at_then ?_
  refine ct_seq ?_
  refine ct_seq ?_
  refine ct_reg ?_
  refine rl_val gw_none (ov_move rfl) rfl ?_
  refine rl_val gw_none (ov_lss rfl rfl) rfl ?_
  refine rl_nil ?_
  refine at_then ?_
  first | refine ct_dec rfl (fun h1 => ?_) (fun h1 => ?_) | refine ct_ndec rfl (fun h1 => ?_) (fun h1 => ?_) | refine ct_eq rfl (fun h1 => ?_) (fun h1 => ?_) | refine ct_ne rfl (fun h1 => ?_) (fun h1 => ?_) | refine ct_not rfl (fun h1 => ?_) (fun h1 => ?_) | refine ct_cond rfl (fun h1 => ?_) (fun h1 => ?_)
  ·
    refine ct_seq ?_
    refine ct_reg ?_
    refine rl_val gw_none (ov_assign rfl) rfl ?_
    refine rl_nil ?_
    refine at_then ?_
    refine ct_ret ?_
    refine at_then_ret ?_
    refine at_ret1 Try.results5 (ro_tmp rfl) (fun w1 hp => ?_)
    exact ⟨rfl, hp.ext0⟩
  ·
    have hbws : ws.length ≤ 1048576 := by omega
    have hmws : ws.length ≤ maxLen := by unfold maxLen; omega
    refine ct_skip ?_
    refine at_then ?_
    refine ct_seq ?_
    refine ct_reg ?_
    refine rl_val gw_none (ov_move rfl) rfl ?_
    refine rl_val gw_none (ov_move rfl) rfl ?_
    refine rl_callx (ι := Int) (fun r => .int .i64 r) (fun r => r < 0 ∨ (0 ≤ r ∧ r ≤ rws - xs.length)) gw_none goes22 rfl (fun w1 hp => szRepairS_c xs.length rws _ _ _ (hsxs.ext hp.ext0) (by omega)) rfl (fun rxs hrxs => ?_)
    refine rl_val gw_none (ov_assign rfl) rfl ?_
    refine rl_nil ?_
    refine at_then ?_
    refine ct_seq ?_
    refine ct_seq ?_
    refine ct_reg ?_
    refine rl_val gw_none (ov_move rfl) rfl ?_
    refine rl_val gw_none (ov_lss rfl rfl) rfl ?_
    refine rl_nil ?_
    refine at_then ?_
    first | refine ct_dec rfl (fun h2 => ?_) (fun h2 => ?_) | refine ct_ndec rfl (fun h2 => ?_) (fun h2 => ?_) | refine ct_eq rfl (fun h2 => ?_) (fun h2 => ?_) | refine ct_ne rfl (fun h2 => ?_) (fun h2 => ?_) | refine ct_not rfl (fun h2 => ?_) (fun h2 => ?_) | refine ct_cond rfl (fun h2 => ?_) (fun h2 => ?_)
    ·
      refine ct_seq ?_
      refine ct_reg ?_
      refine rl_val gw_none (ov_assign rfl) rfl ?_
      refine rl_nil ?_
      refine at_then ?_
      refine ct_ret ?_
      refine at_then_ret ?_
      refine at_ret1 Try.results5 (ro_tmp rfl) (fun w1 hp => ?_)
      exact ⟨rfl, hp.ext0⟩
    ·
      have hbxs : xs.length ≤ 1048576 := by omega
      have hmxs : xs.length ≤ maxLen := by unfold maxLen; omega
      refine ct_skip ?_
      refine at_then ?_
      refine ct_seq ?_
      refine ct_reg ?_
      refine rl_val gw_none (ov_move rfl) rfl ?_
      refine rl_callnew (fun b => .slice (some ⟨b, 0, none⟩) ws.length ws.length) goes17 rfl (fun w1 hp => toWoodS_c ws _ _ (hsws.ext hp.ext0) hbws) rfl (fun b1 => ?_)
      refine rl_val gw_none (ov_move rfl) rfl ?_
      refine rl_callnew (fun b => .slice (some ⟨b, 0, none⟩) xs.length xs.length) goes24 rfl (fun w1 hp => toRepairS_c xs _ _ (hsxs.ext hp.ext0) hbxs) rfl (fun b2 => ?_)
      refine rl_val gw_none (ov_move rfl) rfl ?_
      refine rl_callsl (ι := Nat × List Value) (fun i bo => .tuple #[(sv bo ((lateR ws xs mi).length) i.1), .bool (daysB ws xs mi)]) (fun i => ints (lateR ws xs mi) ++ i.2) (fun i bo => Sl 1 bo ((lateR ws xs mi).length) i.1 (ints (lateR ws xs mi)) i.2) goes23 rfl (fun w1 hp => sLateFrames_c ws xs mi _ _ _ hGws (hp.sr1 1 rfl (flat_length encWood_len _) hmws) hGxs (hp.sr1 0 rfl (flat_length encRepair_len _) hmxs) zmi) rfl (fun iW0 boW0 hsW0 => ?_)
      refine rl_val gw_none (ov_move rfl) rfl ?_
      refine rl_val gw_none (ov_extract rfl rfl) rfl ?_
      refine rl_val gw_none (ov_extract rfl rfl) rfl ?_
      refine rl_val gw_none (ov_assign rfl) rfl ?_
      refine rl_val gw_none (ov_assign rfl) rfl ?_
      refine rl_nil ?_
      refine at_then ?_
      refine ct_seq ?_
      refine ct_reg ?_
      refine rl_val gw_none (ov_move rfl) rfl ?_
      refine rl_callnew (fun b => .slice (some ⟨b, 0, none⟩) ws.length ws.length) goes17 rfl (fun w1 hp => toWoodS_c ws _ _ (hsws.ext hp.ext0) hbws) rfl (fun b3 => ?_)
      refine rl_val gw_none (ov_assign rfl) rfl ?_
      refine rl_nil ?_
      refine at_then ?_
      refine ct_seq ?_
      refine ct_reg ?_
      refine rl_val gw_none (ov_move rfl) rfl ?_
      refine rl_callnew (fun b => .slice (some ⟨b, 0, none⟩) xs.length xs.length) goes24 rfl (fun w1 hp => toRepairS_c xs _ _ (hsxs.ext hp.ext0) hbxs) rfl (fun b4 => ?_)
      refine rl_val gw_none (ov_assign rfl) rfl ?_
      refine rl_nil ?_
      refine at_then ?_
      refine ct_seq ?_
      refine ct_reg ?_
      refine rl_val gw_none (ov_move rfl) rfl ?_
      refine rl_val gw_none (ov_move rfl) rfl ?_
      refine rl_val gw_none (ov_move rfl) rfl ?_
      refine rl_callsl (ι := Nat × List Value) (fun i bo => .tuple #[(sv bo ((lateR ws xs mi).length) i.1), .bool (daysB ws xs mi)]) (fun i => ints (lateR ws xs mi) ++ i.2) (fun i bo => Sl 1 bo ((lateR ws xs mi).length) i.1 (ints (lateR ws xs mi)) i.2) goes25 rfl (fun w1 hp => iLateFrames_c ws xs mi _ _ _ hGws (hp.sr1 1 rfl (flat_length encWood_len _) hmws) hGxs (hp.sr1 0 rfl (flat_length encRepair_len _) hmxs) zmi) rfl (fun iG0 boG0 hsG0 => ?_)
      refine rl_val gw_none (ov_move rfl) rfl ?_
      refine rl_val gw_none (ov_extract rfl rfl) rfl ?_
      refine rl_val gw_none (ov_extract rfl rfl) rfl ?_
      refine rl_val gw_none (ov_assign rfl) rfl ?_
      refine rl_val gw_none (ov_assign rfl) rfl ?_
      refine rl_nil ?_
      refine at_then ?_
      refine ct_seq ?_
      refine ct_seq ?_
      refine ct_reg ?_
      refine rl_val gw_none (ov_move rfl) rfl ?_
      refine rl_val gw_none (ov_move rfl) rfl ?_
      refine rl_callv gw_none goes26 rfl (fun w1 hp => eqIntS_c _ _ _ _ (hp.slsr 0 rfl hsG0) (hp.slsr 3 rfl hsW0)) rfl ?_
      refine rl_val gw_none (ov_not rfl) rfl ?_
      refine rl_val gw_none (ov_move rfl) rfl ?_
      refine rl_val (gw_some rfl rfl rfl) (ov_move rfl) rfl ?_
      refine rl_val (gw_some rfl rfl rfl) (ov_move rfl) rfl ?_
      refine rl_val (gw_some rfl rfl rfl) (ov_neb Try.underlying4 rfl rfl) rfl ?_
      refine rl_val gw_none (ov_pick_f rfl rfl rfl) rfl ?_
      refine rl_nil ?_
      refine at_then ?_
      first | refine ct_dec rfl (fun h3 => ?_) (fun h3 => ?_) | refine ct_ndec rfl (fun h3 => ?_) (fun h3 => ?_) | refine ct_eq rfl (fun h3 => ?_) (fun h3 => ?_) | refine ct_ne rfl (fun h3 => ?_) (fun h3 => ?_) | refine ct_not rfl (fun h3 => ?_) (fun h3 => ?_) | refine ct_cond rfl (fun h3 => ?_) (fun h3 => ?_)
      ·
        exfalso; first | omega | exact absurd rfl h3 | (simp at h3; done) | (simp_all; done)
      ·
        refine ct_skip ?_
        refine at_then ?_
        refine ct_seq ?_
        refine ct_seq ?_
        refine ct_reg ?_
        refine rl_val gw_none (ov_move rfl) rfl ?_
        refine rl_val gw_none (ov_move rfl) rfl ?_
        refine rl_callnew (fun b => .slice (some ⟨b, 0, none⟩) ws.length ws.length) goes17 rfl (fun w1 hp => toWoodS_c ws _ _ (hsws.ext hp.ext0) hbws) rfl (fun b5 => ?_)
        refine rl_callv gw_none goes19 rfl (fun w1 hp => eqWoodS_c ws _ _ _  (hp.sr1 3 rfl (flat_length encWood_len _) hmws) (hp.sr1 0 rfl (flat_length encWood_len _) hmws)) rfl ?_
        refine rl_val gw_none (ov_not rfl) rfl ?_
        refine rl_nil ?_
        refine at_then ?_
        refine ct_false rfl rfl ?_
        refine ct_skip ?_
        refine at_then ?_
        refine ct_seq ?_
        refine ct_seq ?_
        refine ct_reg ?_
        refine rl_val gw_none (ov_move rfl) rfl ?_
        refine rl_val gw_none (ov_move rfl) rfl ?_
        refine rl_callnew (fun b => .slice (some ⟨b, 0, none⟩) xs.length xs.length) goes24 rfl (fun w1 hp => toRepairS_c xs _ _ (hsxs.ext hp.ext0) hbxs) rfl (fun b6 => ?_)
        refine rl_callv gw_none goes27 rfl (fun w1 hp => eqRepairS_c xs _ _ _  (hp.sr1 3 rfl (flat_length encRepair_len _) hmxs) (hp.sr1 0 rfl (flat_length encRepair_len _) hmxs)) rfl ?_
        refine rl_val gw_none (ov_not rfl) rfl ?_
        refine rl_nil ?_
        refine at_then ?_
        refine ct_false rfl rfl ?_
        refine ct_skip ?_
        refine at_then ?_
        refine ct_seq ?_
        refine ct_reg ?_
        refine rl_val gw_none (ov_assign rfl) rfl ?_
        refine rl_nil ?_
        refine at_then ?_
        refine ct_seq ?_
        refine ct_reg ?_
        refine rl_val gw_none (ov_move rfl) rfl ?_
        refine rl_val gw_none (ov_move rfl) rfl ?_
        refine rl_callm [_, _, _, _] goes28 rfl rfl (fun w1 hp => markWoodS_m  _ _ _ _ _ _ (hp.at (i := 4) rfl) (flat_length encWood_len _) (by omega)) rfl ?_
        refine rl_val gw_none (ov_assign rfl) rfl ?_
        refine rl_nil ?_
        refine at_then ?_
        refine ct_seq ?_
        refine ct_reg ?_
        refine rl_val gw_none (ov_move rfl) rfl ?_
        refine rl_val gw_none (ov_move rfl) rfl ?_
        refine rl_callm [_, _, _] goes29 rfl rfl (fun w1 hp => markRepairS_m  _ _ _ _ _ _ (hp.at (i := 3) rfl) (flat_length encRepair_len _) (by omega)) rfl ?_
        refine rl_val gw_none (ov_assign rfl) rfl ?_
        refine rl_nil ?_
        refine at_then ?_
        refine ct_seq ?_
        refine ct_seq ?_
        refine ct_reg ?_
        refine rl_val gw_none (ov_move rfl) rfl ?_
        refine rl_val gw_none (ov_lss rfl rfl) rfl ?_
        refine rl_val gw_none (ov_move rfl) rfl ?_
        refine rl_split (t := 76) rfl (fun g1 => ?_) (fun g1 => ?_)
        ·
          exfalso; first | (simp at g1; omega) | (simp at g1; done) | (simp_all; done)
        ·
          have g1' := g1
          try simp only [Bool.not_eq_true', Bool.not_eq_false', Bool.not_not, decide_eq_true_eq, decide_eq_false_iff_not, beq_iff_eq, beq_eq_false_iff_ne, bne_iff_ne, bne_eq_false_iff_eq, Bool.and_eq_true, Bool.or_eq_true, Bool.and_eq_false_iff, Bool.or_eq_false_iff, inB] at g1'
          refine rl_val (gw_some rfl rfl g1) (ov_move rfl) rfl ?_
          refine rl_val (gw_some rfl rfl g1) (ov_move rfl) rfl ?_
          refine rl_callv (gw_some rfl rfl g1) goes26 rfl (fun w1 hp => eqIntS_c _ _ _ _ (hp.slsr 2 rfl hsG0) (hp.slsr 3 rfl hsW0)) rfl ?_
          refine rl_val (gw_some rfl rfl g1) (ov_not rfl) rfl ?_
          refine rl_val gw_none (ov_pick_f rfl g1 rfl) rfl ?_
          refine rl_val gw_none (ov_move rfl) rfl ?_
          refine rl_val (gw_some rfl rfl rfl) (ov_move rfl) rfl ?_
          refine rl_val (gw_some rfl rfl rfl) (ov_move rfl) rfl ?_
          refine rl_val (gw_some rfl rfl rfl) (ov_neb Try.underlying4 rfl rfl) rfl ?_
          refine rl_val gw_none (ov_pick_f rfl rfl rfl) rfl ?_
          refine rl_nil ?_
          refine at_then ?_
          first | refine ct_dec rfl (fun h4 => ?_) (fun h4 => ?_) | refine ct_ndec rfl (fun h4 => ?_) (fun h4 => ?_) | refine ct_eq rfl (fun h4 => ?_) (fun h4 => ?_) | refine ct_ne rfl (fun h4 => ?_) (fun h4 => ?_) | refine ct_not rfl (fun h4 => ?_) (fun h4 => ?_) | refine ct_cond rfl (fun h4 => ?_) (fun h4 => ?_)
          ·
            exfalso; first | omega | exact absurd rfl h4 | (simp at h4; done) | (simp_all; done)
          ·
            refine ct_skip ?_
            refine at_then ?_
            refine ct_seq ?_
            refine ct_reg ?_
            refine rl_val gw_none (ov_assign rfl) rfl ?_
            refine rl_nil ?_
            refine at_then ?_
            refine ct_seq ?_
            refine ct_reg ?_
            refine rl_val gw_none (ov_move rfl) rfl ?_
            refine rl_val gw_none (ov_move rfl) rfl ?_
            refine rl_callwo [_, _] goes30 rfl rfl (fun w1 hp => markIntS_o  _ hsG0 _ (hp.atO 2 rfl) (by omega)) rfl ?_
            refine rl_val gw_none (ov_assign rfl) rfl ?_
            refine rl_nil ?_
            refine at_then ?_
            refine ct_seq ?_
            refine ct_reg ?_
            refine rl_val gw_none (ov_assign rfl) rfl ?_
            refine rl_nil ?_
            refine at_then ?_
            refine ct_seq ?_
            refine ct_reg ?_
            refine rl_val gw_none (ov_move rfl) rfl ?_
            refine rl_val gw_none (ov_move rfl) rfl ?_
            refine rl_callv gw_none goes31 rfl (fun w1 hp => heldIntS_c  _ _ _ _ (hp.slsr 2 rfl (hsG0.marked _)) (by omega)) rfl ?_
            refine rl_val gw_none (ov_assign rfl) rfl ?_
            refine rl_nil ?_
            refine at_then ?_
            refine ct_seq ?_
            refine ct_seq ?_
            refine ct_reg ?_
            refine rl_val gw_none (ov_move rfl) rfl ?_
            refine rl_val gw_none (ov_lss rfl rfl) rfl ?_
            refine rl_nil ?_
            refine at_then ?_
            first | refine ct_dec rfl (fun h5 => ?_) (fun h5 => ?_) | refine ct_ndec rfl (fun h5 => ?_) (fun h5 => ?_) | refine ct_eq rfl (fun h5 => ?_) (fun h5 => ?_) | refine ct_ne rfl (fun h5 => ?_) (fun h5 => ?_) | refine ct_not rfl (fun h5 => ?_) (fun h5 => ?_) | refine ct_cond rfl (fun h5 => ?_) (fun h5 => ?_)
            ·
              exfalso; first | omega | exact absurd rfl h5 | (simp at h5; done) | (simp_all; done)
            ·
              refine ct_skip ?_
              refine at_then ?_
              refine ct_seq ?_
              refine ct_seq ?_
              refine ct_reg ?_
              refine rl_val gw_none (ov_move rfl) rfl ?_
              refine rl_val gw_none (ov_move rfl) rfl ?_
              refine rl_val gw_none (ov_neq rfl rfl) rfl ?_
              refine rl_nil ?_
              refine at_then ?_
              first | refine ct_dec rfl (fun h6 => ?_) (fun h6 => ?_) | refine ct_ndec rfl (fun h6 => ?_) (fun h6 => ?_) | refine ct_eq rfl (fun h6 => ?_) (fun h6 => ?_) | refine ct_ne rfl (fun h6 => ?_) (fun h6 => ?_) | refine ct_not rfl (fun h6 => ?_) (fun h6 => ?_) | refine ct_cond rfl (fun h6 => ?_) (fun h6 => ?_)
              ·
                exfalso; first | omega | exact absurd rfl h6 | (simp at h6; done) | (simp_all; done)
              ·
                refine ct_skip ?_
                refine at_then ?_
                refine ct_seq ?_
                refine ct_reg ?_
                refine rl_val gw_none (ov_move rfl) rfl ?_
                refine rl_callnew (fun b => .slice (some ⟨b, 0, none⟩) ws.length ws.length) goes17 rfl (fun w1 hp => toWoodS_c ws _ _ (hsws.ext hp.ext0) hbws) rfl (fun b7 => ?_)
                refine rl_val gw_none (ov_move rfl) rfl ?_
                refine rl_callnew (fun b => .slice (some ⟨b, 0, none⟩) xs.length xs.length) goes24 rfl (fun w1 hp => toRepairS_c xs _ _ (hsxs.ext hp.ext0) hbxs) rfl (fun b8 => ?_)
                refine rl_val gw_none (ov_move rfl) rfl ?_
                refine rl_callsl (ι := Nat × List Value) (fun i bo => .tuple #[(sv bo ((lateR ws xs mi).length) i.1), .bool (daysB ws xs mi)]) (fun i => ints (lateR ws xs mi) ++ i.2) (fun i bo => Sl 1 bo ((lateR ws xs mi).length) i.1 (ints (lateR ws xs mi)) i.2) goes25 rfl (fun w1 hp => iLateFrames_c ws xs mi _ _ _ hGws (hp.sr1 1 rfl (flat_length encWood_len _) hmws) hGxs (hp.sr1 0 rfl (flat_length encRepair_len _) hmxs) zmi) rfl (fun iH0 boH0 hsH0 => ?_)
                refine rl_val gw_none (ov_move rfl) rfl ?_
                refine rl_val gw_none (ov_extract rfl rfl) rfl ?_
                refine rl_val gw_none (ov_extract rfl rfl) rfl ?_
                refine rl_val gw_none (ov_assign rfl) rfl ?_
                refine rl_val gw_none (ov_assign rfl) rfl ?_
                refine rl_nil ?_
                refine at_then ?_
                refine ct_seq ?_
                refine ct_seq ?_
                refine ct_reg ?_
                refine rl_val gw_none (ov_move rfl) rfl ?_
                refine rl_val gw_none (ov_move rfl) rfl ?_
                refine rl_callv gw_none goes26 rfl (fun w1 hp => eqIntS_c _ _ _ _ (hp.slsr 0 rfl hsH0) (hp.slsr 6 rfl hsW0)) rfl ?_
                refine rl_val gw_none (ov_not rfl) rfl ?_
                refine rl_val gw_none (ov_move rfl) rfl ?_
                refine rl_val (gw_some rfl rfl rfl) (ov_move rfl) rfl ?_
                refine rl_val (gw_some rfl rfl rfl) (ov_move rfl) rfl ?_
                refine rl_val (gw_some rfl rfl rfl) (ov_neb Try.underlying4 rfl rfl) rfl ?_
                refine rl_val gw_none (ov_pick_f rfl rfl rfl) rfl ?_
                refine rl_nil ?_
                refine at_then ?_
                first | refine ct_dec rfl (fun h7 => ?_) (fun h7 => ?_) | refine ct_ndec rfl (fun h7 => ?_) (fun h7 => ?_) | refine ct_eq rfl (fun h7 => ?_) (fun h7 => ?_) | refine ct_ne rfl (fun h7 => ?_) (fun h7 => ?_) | refine ct_not rfl (fun h7 => ?_) (fun h7 => ?_) | refine ct_cond rfl (fun h7 => ?_) (fun h7 => ?_)
                ·
                  exfalso; first | omega | exact absurd rfl h7 | (simp at h7; done) | (simp_all; done)
                ·
                  refine ct_skip ?_
                  refine at_then ?_
                  refine ct_seq ?_
                  refine ct_reg ?_
                  refine rl_val gw_none (ov_assign rfl) rfl ?_
                  refine rl_nil ?_
                  refine at_then ?_
                  refine ct_seq ?_
                  refine ct_reg ?_
                  refine rl_val gw_none (ov_move rfl) rfl ?_
                  refine rl_val gw_none (ov_move rfl) rfl ?_
                  refine rl_callv gw_none goes31 rfl (fun w1 hp => heldIntS_c  _ _ _ _ (hp.slsr 5 rfl (hsG0.marked _)) (by omega)) rfl ?_
                  refine rl_val gw_none (ov_assign rfl) rfl ?_
                  refine rl_nil ?_
                  refine at_then ?_
                  refine ct_seq ?_
                  refine ct_seq ?_
                  refine ct_reg ?_
                  refine rl_val gw_none (ov_move rfl) rfl ?_
                  refine rl_val gw_none (ov_lss rfl rfl) rfl ?_
                  refine rl_nil ?_
                  refine at_then ?_
                  first | refine ct_dec rfl (fun h8 => ?_) (fun h8 => ?_) | refine ct_ndec rfl (fun h8 => ?_) (fun h8 => ?_) | refine ct_eq rfl (fun h8 => ?_) (fun h8 => ?_) | refine ct_ne rfl (fun h8 => ?_) (fun h8 => ?_) | refine ct_not rfl (fun h8 => ?_) (fun h8 => ?_) | refine ct_cond rfl (fun h8 => ?_) (fun h8 => ?_)
                  ·
                    exfalso; first | omega | exact absurd rfl h8 | (simp at h8; done) | (simp_all; done)
                  ·
                    refine ct_skip ?_
                    refine at_then ?_
                    refine ct_seq ?_
                    refine ct_seq ?_
                    refine ct_reg ?_
                    refine rl_val gw_none (ov_move rfl) rfl ?_
                    refine rl_val gw_none (ov_move rfl) rfl ?_
                    refine rl_val gw_none (ov_neq rfl rfl) rfl ?_
                    refine rl_nil ?_
                    refine at_then ?_
                    first | refine ct_dec rfl (fun h9 => ?_) (fun h9 => ?_) | refine ct_ndec rfl (fun h9 => ?_) (fun h9 => ?_) | refine ct_eq rfl (fun h9 => ?_) (fun h9 => ?_) | refine ct_ne rfl (fun h9 => ?_) (fun h9 => ?_) | refine ct_not rfl (fun h9 => ?_) (fun h9 => ?_) | refine ct_cond rfl (fun h9 => ?_) (fun h9 => ?_)
                    ·
                      exfalso; first | omega | exact absurd rfl h9 | (simp at h9; done) | (simp_all; done)
                    ·
                      refine ct_skip ?_
                      refine at_then ?_
                      refine ct_seq ?_
                      refine ct_reg ?_
                      refine rl_val gw_none (ov_assign rfl) rfl ?_
                      refine rl_nil ?_
                      refine at_then ?_
                      refine ct_ret ?_
                      refine at_ret1 Try.results5 (ro_tmp rfl) (fun w1 hp => ?_)
                      exact ⟨rfl, hp.ext0⟩
end Go.Proofs.Ytaajkamfeaafpaa
