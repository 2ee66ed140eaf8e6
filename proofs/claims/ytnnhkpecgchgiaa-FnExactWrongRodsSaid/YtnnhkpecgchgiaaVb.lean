import Derived.Test.YtnnhkpecgchgiaaVa
import Derived.KernelRfl
set_option linter.unusedVariables false
set_option linter.unusedSimpArgs false
namespace Go.Proofs.Ytnnhkpecgchgiaa
open Go Go.RowKit K
theorem iIsMind_c (u : Int) (l : Int) (xs : List IntA2) (cl : List Int) (im : List Int) (be : Int) (gu : Int) (vxs : Value) (vcl : Value) (vim : Value) (w : World) (zu : In64 u) (zl : In64 l) (hGxs : ∀ y ∈ xs, GIntA2 y) (hsxs : SR w 2 vxs xs.length (flat encIntA2 xs)) (hscl : SR w 1 vcl cl.length (ints cl)) (hsim : SR w 1 vim im.length (ints im)) (zbe : In64 be) (zgu : In64 gu) : Calls Try.prog 86 ([.agg (List.toArray (α := Value) [.int .i64 u, .int .i64 l, vxs, vcl, vim, .int .i64 be, .int .i64 gu])]).toArray w (fun e w' => e = .returned (.bool (mindB u l xs cl im be gu)) ∧ Ext w w') := by
  obtain ⟨axs, capxs, rfl, hcapxs, hmaxxs⟩ := hsxs.slice
  have hlenxs := hsxs.len_le
  obtain ⟨acl, capcl, rfl, hcapcl, hmaxcl⟩ := hscl.slice
  have hlencl := hscl.len_le
  obtain ⟨aim, capim, rfl, hcapim, hmaxim⟩ := hsim.slice
  have hlenim := hsim.len_le
  refine calls_ct Try.func86 Try.ntmps86 rfl rfl ?_
  refine ct_seq ?_
  refine ct_reg ?_
  refine rl_box rfl rfl (fun N1 => ?_)
  refine rl_val gw_none (ov_assign rfl) rfl ?_
  refine rl_nil ?_
  refine at_then ?_
  refine ct_seq ?_
  refine ct_reg ?_
  refine rl_val gw_none (ov_field fo29_0 rfl) rfl ?_
  refine rl_val gw_none (ov_field fo26_2 rfl) rfl ?_
  first | refine rl_val gw_none (ov_load 0 sc22 rfl rfl rfl) rfl ?_ | refine rl_val gw_none (ov_load 0 sc22 rfl rfl (by assumption)) rfl ?_
  refine rl_val gw_none (ov_len Try.underlying22 rfl) rfl ?_
  refine rl_val gw_none (ov_assign rfl) rfl ?_
  refine rl_nil ?_
  refine at_then ?_
  refine ct_seq ?_
  refine ct_seq ?_
  refine ct_reg ?_
  refine rl_val gw_none (ov_field fo29_0 rfl) rfl ?_
  first | refine rl_val gw_none (ov_loadall 0 ag26 rfl rfl rfl) rfl ?_ | refine rl_val gw_none (ov_loadp 0 ag26 rfl rfl (vs := [_, _, _]) rfl rfl) rfl ?_ | refine rl_val gw_none (ov_loada 0 ag26 rfl rfl rfl (by assumption)) rfl ?_
  refine rl_callx (ι := Value) (fun p => .tuple #[p, .bool (goodB u l xs)]) (fun _ => True) gw_none goes77 rfl (fun w1 hp => begin_x u l xs _ _ zu zl hGxs (hsxs.ext hp.ext0)) rfl (fun pb _ => ?_)
  refine rl_val gw_none (ov_move rfl) rfl ?_
  refine rl_val gw_none (ov_extract rfl rfl) rfl ?_
  refine rl_val gw_none (ov_extract rfl rfl) rfl ?_
  refine rl_val gw_none (ov_assign rfl) rfl ?_
  refine rl_val gw_none (ov_assign rfl) rfl ?_
  refine rl_nil ?_
  refine at_then ?_
  refine ct_seq ?_
  refine ct_reg ?_
  refine rl_val gw_none (ov_move rfl) rfl ?_
  refine rl_val gw_none (ov_not rfl) rfl ?_
  refine rl_val gw_none (ov_move rfl) rfl ?_
  refine rl_split (t := 20) rfl (fun g1 => ?_) (fun g1 => ?_)
  ·
    have g1' := g1
    try simp only [Bool.not_eq_true', Bool.not_eq_false', Bool.not_not, decide_eq_true_eq, decide_eq_false_iff_not, beq_iff_eq, beq_eq_false_iff_ne, bne_iff_ne, bne_eq_false_iff_eq, Bool.and_eq_true, Bool.or_eq_true, Bool.and_eq_false_iff, Bool.or_eq_false_iff, inB] at g1'
    refine rl_skip (gw_not rfl rfl g1) rfl ?_
    refine rl_skip (gw_not rfl rfl g1) rfl ?_
    refine rl_skip (gw_not rfl rfl g1) rfl ?_
    refine rl_skip (gw_not rfl rfl g1) rfl ?_
    refine rl_skip (gw_not rfl rfl g1) rfl ?_
    refine rl_val gw_none (ov_pick_t rfl g1 rfl) rfl ?_
    refine rl_val gw_none (ov_move rfl) rfl ?_
    refine rl_skip (gw_not rfl rfl rfl) rfl ?_
    refine rl_skip (gw_not rfl rfl rfl) rfl ?_
    refine rl_skip (gw_not rfl rfl rfl) rfl ?_
    refine rl_skip (gw_not rfl rfl rfl) rfl ?_
    refine rl_skip (gw_not rfl rfl rfl) rfl ?_
    refine rl_val gw_none (ov_pick_t rfl rfl rfl) rfl ?_
    refine rl_val gw_none (ov_move rfl) rfl ?_
    refine rl_skip (gw_not rfl rfl rfl) rfl ?_
    refine rl_skip (gw_not rfl rfl rfl) rfl ?_
    refine rl_skip (gw_not rfl rfl rfl) rfl ?_
    refine rl_skip (gw_not rfl rfl rfl) rfl ?_
    refine rl_val gw_none (ov_pick_t rfl rfl rfl) rfl ?_
    refine rl_val gw_none (ov_move rfl) rfl ?_
    refine rl_skip (gw_not rfl rfl rfl) rfl ?_
    refine rl_skip (gw_not rfl rfl rfl) rfl ?_
    refine rl_skip (gw_not rfl rfl rfl) rfl ?_
    refine rl_skip (gw_not rfl rfl rfl) rfl ?_
    refine rl_val gw_none (ov_pick_t rfl rfl rfl) rfl ?_
    refine rl_nil ?_
    refine at_then ?_
    refine ct_true rfl rfl ?_
    refine ct_seq ?_
    refine ct_reg ?_
    refine rl_val gw_none (ov_assign rfl) rfl ?_
    refine rl_nil ?_
    refine at_then ?_
    refine ct_ret ?_
    refine at_then_ret ?_
    refine at_ret1 Try.results86 (ro_tmp rfl) (fun w1 hp => ?_)
    refine ⟨?_, hp.ext0⟩
    first | (rw [mindB_step hk2 (by rw [hst]; by_cases q1 : d < 0 <;> by_cases q2 : c = 0 <;> by_cases q3 : d = -1 <;> first | (exfalso; omega) | (exfalso; rw [show (c == 0) = false from by simpa using q2, show (d == -1) = false from by simpa using q3] at h3; simp at h3; done) | (simp_all [inB]; done) | (simp_all [inB]; omega))]; done) | (rw [mindB_end hall]; unfold mindH; first | (simp_all; done) | (simp_all [inB]; done)) | (rw [mindB_head (by unfold mindH; first | (simp_all; done) | (simp_all [inB]; omega))]; done)
  ·
    have g1' := g1
    try simp only [Bool.not_eq_true', Bool.not_eq_false', Bool.not_not, decide_eq_true_eq, decide_eq_false_iff_not, beq_iff_eq, beq_eq_false_iff_ne, bne_iff_ne, bne_eq_false_iff_eq, Bool.and_eq_true, Bool.or_eq_true, Bool.and_eq_false_iff, Bool.or_eq_false_iff, inB] at g1'
    refine rl_val (gw_some rfl rfl g1) (ov_field fo29_2 rfl) rfl ?_
    first | refine rl_val (gw_some rfl rfl g1) (ov_load 0 sc27 rfl rfl rfl) rfl ?_ | refine rl_val (gw_some rfl rfl g1) (ov_load 0 sc27 rfl rfl (by assumption)) rfl ?_
    refine rl_val (gw_some rfl rfl g1) (ov_len Try.underlying27 rfl) rfl ?_
    refine rl_val (gw_some rfl rfl g1) (ov_move rfl) rfl ?_
    refine rl_val (gw_some rfl rfl g1) (ov_neq rfl rfl) rfl ?_
    refine rl_val gw_none (ov_pick_f rfl g1 rfl) rfl ?_
    refine rl_val gw_none (ov_move rfl) rfl ?_
    refine rl_split (t := 27) rfl (fun g2 => ?_) (fun g2 => ?_)
    ·
      have g2' := g2
      try simp only [Bool.not_eq_true', Bool.not_eq_false', Bool.not_not, decide_eq_true_eq, decide_eq_false_iff_not, beq_iff_eq, beq_eq_false_iff_ne, bne_iff_ne, bne_eq_false_iff_eq, Bool.and_eq_true, Bool.or_eq_true, Bool.and_eq_false_iff, Bool.or_eq_false_iff, inB] at g2'
      refine rl_skip (gw_not rfl rfl g2) rfl ?_
      refine rl_skip (gw_not rfl rfl g2) rfl ?_
      refine rl_skip (gw_not rfl rfl g2) rfl ?_
      refine rl_skip (gw_not rfl rfl g2) rfl ?_
      refine rl_skip (gw_not rfl rfl g2) rfl ?_
      refine rl_val gw_none (ov_pick_t rfl g2 rfl) rfl ?_
      refine rl_val gw_none (ov_move rfl) rfl ?_
      refine rl_skip (gw_not rfl rfl rfl) rfl ?_
      refine rl_skip (gw_not rfl rfl rfl) rfl ?_
      refine rl_skip (gw_not rfl rfl rfl) rfl ?_
      refine rl_skip (gw_not rfl rfl rfl) rfl ?_
      refine rl_val gw_none (ov_pick_t rfl rfl rfl) rfl ?_
      refine rl_val gw_none (ov_move rfl) rfl ?_
      refine rl_skip (gw_not rfl rfl rfl) rfl ?_
      refine rl_skip (gw_not rfl rfl rfl) rfl ?_
      refine rl_skip (gw_not rfl rfl rfl) rfl ?_
      refine rl_skip (gw_not rfl rfl rfl) rfl ?_
      refine rl_val gw_none (ov_pick_t rfl rfl rfl) rfl ?_
      refine rl_nil ?_
      refine at_then ?_
      refine ct_true rfl rfl ?_
      refine ct_seq ?_
      refine ct_reg ?_
      refine rl_val gw_none (ov_assign rfl) rfl ?_
      refine rl_nil ?_
      refine at_then ?_
      refine ct_ret ?_
      refine at_then_ret ?_
      refine at_ret1 Try.results86 (ro_tmp rfl) (fun w1 hp => ?_)
      refine ⟨?_, hp.ext0⟩
      first | (rw [mindB_step hk2 (by rw [hst]; by_cases q1 : d < 0 <;> by_cases q2 : c = 0 <;> by_cases q3 : d = -1 <;> first | (exfalso; omega) | (exfalso; rw [show (c == 0) = false from by simpa using q2, show (d == -1) = false from by simpa using q3] at h3; simp at h3; done) | (simp_all [inB]; done) | (simp_all [inB]; omega))]; done) | (rw [mindB_end hall]; unfold mindH; first | (simp_all; done) | (simp_all [inB]; done)) | (rw [mindB_head (by unfold mindH; first | (simp_all; done) | (simp_all [inB]; omega))]; done)
    ·
      have g2' := g2
      try simp only [Bool.not_eq_true', Bool.not_eq_false', Bool.not_not, decide_eq_true_eq, decide_eq_false_iff_not, beq_iff_eq, beq_eq_false_iff_ne, bne_iff_ne, bne_eq_false_iff_eq, Bool.and_eq_true, Bool.or_eq_true, Bool.and_eq_false_iff, Bool.or_eq_false_iff, inB] at g2'
      refine rl_val (gw_some rfl rfl g2) (ov_field fo29_1 rfl) rfl ?_
      first | refine rl_val (gw_some rfl rfl g2) (ov_load 0 sc27 rfl rfl rfl) rfl ?_ | refine rl_val (gw_some rfl rfl g2) (ov_load 0 sc27 rfl rfl (by assumption)) rfl ?_
      refine rl_val (gw_some rfl rfl g2) (ov_len Try.underlying27 rfl) rfl ?_
      refine rl_val (gw_some rfl rfl g2) (ov_move rfl) rfl ?_
      refine rl_val (gw_some rfl rfl g2) (ov_neq rfl rfl) rfl ?_
      refine rl_val gw_none (ov_pick_f rfl g2 rfl) rfl ?_
      refine rl_val gw_none (ov_move rfl) rfl ?_
      refine rl_split (t := 34) rfl (fun g3 => ?_) (fun g3 => ?_)
      ·
        have g3' := g3
        try simp only [Bool.not_eq_true', Bool.not_eq_false', Bool.not_not, decide_eq_true_eq, decide_eq_false_iff_not, beq_iff_eq, beq_eq_false_iff_ne, bne_iff_ne, bne_eq_false_iff_eq, Bool.and_eq_true, Bool.or_eq_true, Bool.and_eq_false_iff, Bool.or_eq_false_iff, inB] at g3'
        refine rl_skip (gw_not rfl rfl g3) rfl ?_
        refine rl_skip (gw_not rfl rfl g3) rfl ?_
        refine rl_skip (gw_not rfl rfl g3) rfl ?_
        refine rl_skip (gw_not rfl rfl g3) rfl ?_
        refine rl_val gw_none (ov_pick_t rfl g3 rfl) rfl ?_
        refine rl_val gw_none (ov_move rfl) rfl ?_
        refine rl_skip (gw_not rfl rfl rfl) rfl ?_
        refine rl_skip (gw_not rfl rfl rfl) rfl ?_
        refine rl_skip (gw_not rfl rfl rfl) rfl ?_
        refine rl_skip (gw_not rfl rfl rfl) rfl ?_
        refine rl_val gw_none (ov_pick_t rfl rfl rfl) rfl ?_
        refine rl_nil ?_
        refine at_then ?_
        refine ct_true rfl rfl ?_
        refine ct_seq ?_
        refine ct_reg ?_
        refine rl_val gw_none (ov_assign rfl) rfl ?_
        refine rl_nil ?_
        refine at_then ?_
        refine ct_ret ?_
        refine at_then_ret ?_
        refine at_ret1 Try.results86 (ro_tmp rfl) (fun w1 hp => ?_)
        refine ⟨?_, hp.ext0⟩
        first | (rw [mindB_step hk2 (by rw [hst]; by_cases q1 : d < 0 <;> by_cases q2 : c = 0 <;> by_cases q3 : d = -1 <;> first | (exfalso; omega) | (exfalso; rw [show (c == 0) = false from by simpa using q2, show (d == -1) = false from by simpa using q3] at h3; simp at h3; done) | (simp_all [inB]; done) | (simp_all [inB]; omega))]; done) | (rw [mindB_end hall]; unfold mindH; first | (simp_all; done) | (simp_all [inB]; done)) | (rw [mindB_head (by unfold mindH; first | (simp_all; done) | (simp_all [inB]; omega))]; done)
      ·
        have g3' := g3
        try simp only [Bool.not_eq_true', Bool.not_eq_false', Bool.not_not, decide_eq_true_eq, decide_eq_false_iff_not, beq_iff_eq, beq_eq_false_iff_ne, bne_iff_ne, bne_eq_false_iff_eq, Bool.and_eq_true, Bool.or_eq_true, Bool.and_eq_false_iff, Bool.or_eq_false_iff, inB] at g3'
        refine rl_val (gw_some rfl rfl g3) (ov_field fo29_3 rfl) rfl ?_
        first | refine rl_val (gw_some rfl rfl g3) (ov_load 0 sc3 rfl rfl rfl) rfl ?_ | refine rl_val (gw_some rfl rfl g3) (ov_load 0 sc3 rfl rfl (by assumption)) rfl ?_
        refine rl_callv (gw_some rfl rfl g3) goes112 rfl (fun w1 hp => within_c _ _ _ _) rfl ?_
        refine rl_val (gw_some rfl rfl g3) (ov_not rfl) rfl ?_
        refine rl_val gw_none (ov_pick_f rfl g3 rfl) rfl ?_
        refine rl_val gw_none (ov_move rfl) rfl ?_
        refine rl_split (t := 40) rfl (fun g4 => ?_) (fun g4 => ?_)
        ·
          have g4' := g4
          try simp only [Bool.not_eq_true', Bool.not_eq_false', Bool.not_not, decide_eq_true_eq, decide_eq_false_iff_not, beq_iff_eq, beq_eq_false_iff_ne, bne_iff_ne, bne_eq_false_iff_eq, Bool.and_eq_true, Bool.or_eq_true, Bool.and_eq_false_iff, Bool.or_eq_false_iff, inB] at g4'
          refine rl_skip (gw_not rfl rfl g4) rfl ?_
          refine rl_skip (gw_not rfl rfl g4) rfl ?_
          refine rl_skip (gw_not rfl rfl g4) rfl ?_
          refine rl_skip (gw_not rfl rfl g4) rfl ?_
          refine rl_val gw_none (ov_pick_t rfl g4 rfl) rfl ?_
          refine rl_nil ?_
          refine at_then ?_
          refine ct_true rfl rfl ?_
          refine ct_seq ?_
          refine ct_reg ?_
          refine rl_val gw_none (ov_assign rfl) rfl ?_
          refine rl_nil ?_
          refine at_then ?_
          refine ct_ret ?_
          refine at_then_ret ?_
          refine at_ret1 Try.results86 (ro_tmp rfl) (fun w1 hp => ?_)
          refine ⟨?_, hp.ext0⟩
          first | (rw [mindB_step hk2 (by rw [hst]; by_cases q1 : d < 0 <;> by_cases q2 : c = 0 <;> by_cases q3 : d = -1 <;> first | (exfalso; omega) | (exfalso; rw [show (c == 0) = false from by simpa using q2, show (d == -1) = false from by simpa using q3] at h3; simp at h3; done) | (simp_all [inB]; done) | (simp_all [inB]; omega))]; done) | (rw [mindB_end hall]; unfold mindH; first | (simp_all; done) | (simp_all [inB]; done)) | (rw [mindB_head (by unfold mindH; first | (simp_all; done) | (simp_all [inB]; omega))]; done)
        ·
          have g4' := g4
          try simp only [Bool.not_eq_true', Bool.not_eq_false', Bool.not_not, decide_eq_true_eq, decide_eq_false_iff_not, beq_iff_eq, beq_eq_false_iff_ne, bne_iff_ne, bne_eq_false_iff_eq, Bool.and_eq_true, Bool.or_eq_true, Bool.and_eq_false_iff, Bool.or_eq_false_iff, inB] at g4'
          refine rl_val (gw_some rfl rfl g4) (ov_field fo29_4 rfl) rfl ?_
          first | refine rl_val (gw_some rfl rfl g4) (ov_load 0 sc3 rfl rfl rfl) rfl ?_ | refine rl_val (gw_some rfl rfl g4) (ov_load 0 sc3 rfl rfl (by assumption)) rfl ?_
          refine rl_callv (gw_some rfl rfl g4) goes112 rfl (fun w1 hp => within_c _ _ _ _) rfl ?_
          refine rl_val (gw_some rfl rfl g4) (ov_not rfl) rfl ?_
          refine rl_val gw_none (ov_pick_f rfl g4 rfl) rfl ?_
          refine rl_nil ?_
          refine at_then ?_
          first | refine ct_dec rfl (fun h1 => ?_) (fun h1 => ?_) | refine ct_ndec rfl (fun h1 => ?_) (fun h1 => ?_) | refine ct_eq rfl (fun h1 => ?_) (fun h1 => ?_) | refine ct_ne rfl (fun h1 => ?_) (fun h1 => ?_) | refine ct_not rfl (fun h1 => ?_) (fun h1 => ?_) | refine ct_cond rfl (fun h1 => ?_) (fun h1 => ?_)
          ·
            refine ct_seq ?_
            refine ct_reg ?_
            refine rl_val gw_none (ov_assign rfl) rfl ?_
            refine rl_nil ?_
            refine at_then ?_
            refine ct_ret ?_
            refine at_then_ret ?_
            refine at_ret1 Try.results86 (ro_tmp rfl) (fun w1 hp => ?_)
            refine ⟨?_, hp.ext0⟩
            first | (rw [mindB_step hk2 (by rw [hst]; by_cases q1 : d < 0 <;> by_cases q2 : c = 0 <;> by_cases q3 : d = -1 <;> first | (exfalso; omega) | (exfalso; rw [show (c == 0) = false from by simpa using q2, show (d == -1) = false from by simpa using q3] at h3; simp at h3; done) | (simp_all [inB]; done) | (simp_all [inB]; omega))]; done) | (rw [mindB_end hall]; unfold mindH; first | (simp_all; done) | (simp_all [inB]; done)) | (rw [mindB_head (by unfold mindH; first | (simp_all; done) | (simp_all [inB]; omega))]; done)
          ·
            have hl1 : im.length = xs.length ∧ cl.length = xs.length := by omega
            refine ct_skip ?_
            refine at_then ?_
            refine ct_seq ?_
            refine ct_seq ?_
            refine ct_reg ?_
            refine rl_val gw_none (ov_field fo29_2 rfl) rfl ?_
            first | refine rl_val gw_none (ov_load 0 sc27 rfl rfl rfl) rfl ?_ | refine rl_val gw_none (ov_load 0 sc27 rfl rfl (by assumption)) rfl ?_
            refine rl_val gw_none (ov_len Try.underlying27 rfl) rfl ?_
            refine rl_val gw_none (ov_move rfl) rfl ?_
            refine rl_nil ?_
            refine at_then ?_
            refine ct_block ?_
            refine ct_loopR (ι := Nat) (fun k => [(49, .int .i64 k)]) [(1, _), (47, _), (48, _)] (fun _ => _) (fun k => k ≤ im.length ∧ ∀ j, j < k → mindStep cl im j = true) (fun k => im.length - k) (0) (Sub.cons rfl (Sub.cons rfl (Sub.cons rfl Sub.nil))) (fun _ hq => hq) (by (repeat' (first | exact Sub.nil | refine Sub.cons ?_ ?_)); all_goals (first | rfl | exact lkInt rfl (by omega))) ⟨Nat.zero_le _, fun j hj => absurd hj (Nat.not_lt_zero j)⟩ (fun k hi => ?_)
            obtain ⟨hk, hall⟩ := hi
            refine ct_seq ?_
            refine ct_reg ?_
            refine rl_val gw_none (ov_lss rfl rfl) rfl ?_
            refine rl_nil ?_
            refine at_then ?_
            refine ct_seq ?_
            first | refine ct_dec rfl (fun h2 => ?_) (fun h2 => ?_) | refine ct_ndec rfl (fun h2 => ?_) (fun h2 => ?_) | refine ct_eq rfl (fun h2 => ?_) (fun h2 => ?_) | refine ct_ne rfl (fun h2 => ?_) (fun h2 => ?_) | refine ct_not rfl (fun h2 => ?_) (fun h2 => ?_) | refine ct_cond rfl (fun h2 => ?_) (fun h2 => ?_)
            ·
              have hk2 : k < im.length := by omega
              have hkc : k < cl.length := by omega
              obtain ⟨bi, oi, rfl, hei⟩ := hsim.int hk2
              obtain ⟨bc, oc, rfl, hec⟩ := hscl.int hkc
              have hxi := getLt hk2
              have hxc := getLt hkc
              have hst := mindStep_eq hxi hxc
              have hgood : mindStep cl im k = true → (k + 1 ≤ im.length ∧ ∀ j, j < k + 1 → mindStep cl im j = true) := fun ht => ⟨hk2, fun j hj => by by_cases hjk : j = k; exact hjk ▸ ht; exact hall j (by omega)⟩
              generalize im[k] = d at *
              generalize cl[k] = c at *
              have hci := hei k d hxi
              have hcc := hec k c hxc
              refine ct_skip ?_
              refine at_then ?_
              refine ct_seq ?_
              refine ct_block ?_
              refine ct_seq ?_
              refine ct_reg ?_
              refine rl_val gw_none (ov_move rfl) rfl ?_
              refine rl_val gw_none (ov_ix Try.underlying27 sz3 rfl rfl _ rfl (by omega)) rfl ?_
              first | refine rl_val gw_none (ov_load 0 sc3 rfl rfl rfl) rfl ?_ | refine rl_val gw_none (ov_load 1 sc3 rfl rfl rfl) rfl ?_ | refine rl_val gw_none (ov_load 2 sc3 rfl rfl rfl) rfl ?_ | refine rl_val gw_none (ov_load 3 sc3 rfl rfl rfl) rfl ?_ | refine rl_val gw_none (ov_loadw sc3 rfl (by assumption)) rfl ?_ | refine rl_val gw_none (ov_load 0 sc3 rfl rfl (by assumption)) rfl ?_ | refine rl_val gw_none (ov_load 1 sc3 rfl rfl (by assumption)) rfl ?_ | refine rl_val gw_none (ov_load 2 sc3 rfl rfl (by assumption)) rfl ?_ | refine rl_val gw_none (ov_load 3 sc3 rfl rfl (by assumption)) rfl ?_
              refine rl_val gw_none (ov_assign rfl) rfl ?_
              refine rl_val gw_none (ov_assign rfl) rfl ?_
              refine rl_nil ?_
              refine at_then ?_
              refine ct_seq ?_
              refine ct_reg ?_
              refine rl_val gw_none (ov_move rfl) rfl ?_
              refine rl_callv gw_none goes112 rfl (fun w1 hp => within_c _ _ _ _) rfl ?_
              refine rl_val gw_none (ov_not rfl) rfl ?_
              refine rl_val gw_none (ov_move rfl) rfl ?_
              refine rl_split (t := 57) rfl (fun g5 => ?_) (fun g5 => ?_)
              ·
                have g5' := g5
                try simp only [Bool.not_eq_true', Bool.not_eq_false', Bool.not_not, decide_eq_true_eq, decide_eq_false_iff_not, beq_iff_eq, beq_eq_false_iff_ne, bne_iff_ne, bne_eq_false_iff_eq, Bool.and_eq_true, Bool.or_eq_true, Bool.and_eq_false_iff, Bool.or_eq_false_iff, inB] at g5'
                refine rl_skip (gw_not rfl rfl g5) rfl ?_
                refine rl_skip (gw_not rfl rfl g5) rfl ?_
                refine rl_skip (gw_not rfl rfl g5) rfl ?_
                refine rl_skip (gw_not rfl rfl g5) rfl ?_
                refine rl_skip (gw_not rfl rfl g5) rfl ?_
                refine rl_skip (gw_not rfl rfl g5) rfl ?_
                refine rl_skip (gw_not rfl rfl g5) rfl ?_
                refine rl_val gw_none (ov_pick_t rfl g5 rfl) rfl ?_
                refine rl_val gw_none (ov_move rfl) rfl ?_
                refine rl_skip (gw_not rfl rfl rfl) rfl ?_
                refine rl_skip (gw_not rfl rfl rfl) rfl ?_
                refine rl_skip (gw_not rfl rfl rfl) rfl ?_
                refine rl_skip (gw_not rfl rfl rfl) rfl ?_
                refine rl_skip (gw_not rfl rfl rfl) rfl ?_
                refine rl_skip (gw_not rfl rfl rfl) rfl ?_
                refine rl_skip (gw_not rfl rfl rfl) rfl ?_
                refine rl_skip (gw_not rfl rfl rfl) rfl ?_
                refine rl_skip (gw_not rfl rfl rfl) rfl ?_
                refine rl_val gw_none (ov_pick_t rfl rfl rfl) rfl ?_
                refine rl_nil ?_
                refine at_then ?_
                refine ct_true rfl rfl ?_
                refine ct_seq ?_
                refine ct_reg ?_
                refine rl_val gw_none (ov_assign rfl) rfl ?_
                refine rl_nil ?_
                refine at_then ?_
                refine ct_ret ?_
                refine at_block_ret ?_
                refine at_then_ret ?_
                refine at_then_ret ?_
                refine at_block_ret ?_
                refine at_then_ret ?_
                refine at_ret1 Try.results86 (ro_tmp rfl) (fun w1 hp => ?_)
                refine ⟨?_, hp.ext0⟩
                first | (rw [mindB_step hk2 (by rw [hst]; by_cases q1 : d < 0 <;> by_cases q2 : c = 0 <;> by_cases q3 : d = -1 <;> first | (exfalso; omega) | (exfalso; rw [show (c == 0) = false from by simpa using q2, show (d == -1) = false from by simpa using q3] at h3; simp at h3; done) | (simp_all [inB]; done) | (simp_all [inB]; omega))]; done) | (rw [mindB_end hall]; unfold mindH; first | (simp_all; done) | (simp_all [inB]; done)) | (rw [mindB_head (by unfold mindH; first | (simp_all; done) | (simp_all [inB]; omega))]; done)
              ·
                have g5' := g5
                try simp only [Bool.not_eq_true', Bool.not_eq_false', Bool.not_not, decide_eq_true_eq, decide_eq_false_iff_not, beq_iff_eq, beq_eq_false_iff_ne, bne_iff_ne, bne_eq_false_iff_eq, Bool.and_eq_true, Bool.or_eq_true, Bool.and_eq_false_iff, Bool.or_eq_false_iff, inB] at g5'
                refine rl_val (gw_some rfl rfl g5) (ov_field fo29_1 rfl) rfl ?_
                first | refine rl_val (gw_some rfl rfl g5) (ov_load 0 sc27 rfl rfl rfl) rfl ?_ | refine rl_val (gw_some rfl rfl g5) (ov_load 0 sc27 rfl rfl (by assumption)) rfl ?_
                refine rl_val (gw_some rfl rfl g5) (ov_move rfl) rfl ?_
                refine rl_val (gw_some rfl rfl g5) (ov_ix Try.underlying27 sz3 rfl rfl _ rfl (by omega)) rfl ?_
                first | refine rl_val (gw_some rfl rfl g5) (ov_load 0 sc3 rfl rfl rfl) rfl ?_ | refine rl_val (gw_some rfl rfl g5) (ov_load 1 sc3 rfl rfl rfl) rfl ?_ | refine rl_val (gw_some rfl rfl g5) (ov_load 2 sc3 rfl rfl rfl) rfl ?_ | refine rl_val (gw_some rfl rfl g5) (ov_load 3 sc3 rfl rfl rfl) rfl ?_ | refine rl_val (gw_some rfl rfl g5) (ov_loadw sc3 rfl (by assumption)) rfl ?_ | refine rl_val (gw_some rfl rfl g5) (ov_load 0 sc3 rfl rfl (by assumption)) rfl ?_ | refine rl_val (gw_some rfl rfl g5) (ov_load 1 sc3 rfl rfl (by assumption)) rfl ?_ | refine rl_val (gw_some rfl rfl g5) (ov_load 2 sc3 rfl rfl (by assumption)) rfl ?_ | refine rl_val (gw_some rfl rfl g5) (ov_load 3 sc3 rfl rfl (by assumption)) rfl ?_
                refine rl_callv (gw_some rfl rfl g5) goes112 rfl (fun w1 hp => within_c _ _ _ _) rfl ?_
                refine rl_val (gw_some rfl rfl g5) (ov_not rfl) rfl ?_
                refine rl_val gw_none (ov_pick_f rfl g5 rfl) rfl ?_
                refine rl_val gw_none (ov_move rfl) rfl ?_
                refine rl_split (t := 66) rfl (fun g6 => ?_) (fun g6 => ?_)
                ·
                  have g6' := g6
                  try simp only [Bool.not_eq_true', Bool.not_eq_false', Bool.not_not, decide_eq_true_eq, decide_eq_false_iff_not, beq_iff_eq, beq_eq_false_iff_ne, bne_iff_ne, bne_eq_false_iff_eq, Bool.and_eq_true, Bool.or_eq_true, Bool.and_eq_false_iff, Bool.or_eq_false_iff, inB] at g6'
                  refine rl_skip (gw_not rfl rfl g6) rfl ?_
                  refine rl_skip (gw_not rfl rfl g6) rfl ?_
                  refine rl_skip (gw_not rfl rfl g6) rfl ?_
                  refine rl_skip (gw_not rfl rfl g6) rfl ?_
                  refine rl_skip (gw_not rfl rfl g6) rfl ?_
                  refine rl_skip (gw_not rfl rfl g6) rfl ?_
                  refine rl_skip (gw_not rfl rfl g6) rfl ?_
                  refine rl_skip (gw_not rfl rfl g6) rfl ?_
                  refine rl_skip (gw_not rfl rfl g6) rfl ?_
                  refine rl_val gw_none (ov_pick_t rfl g6 rfl) rfl ?_
                  refine rl_nil ?_
                  refine at_then ?_
                  refine ct_true rfl rfl ?_
                  refine ct_seq ?_
                  refine ct_reg ?_
                  refine rl_val gw_none (ov_assign rfl) rfl ?_
                  refine rl_nil ?_
                  refine at_then ?_
                  refine ct_ret ?_
                  refine at_block_ret ?_
                  refine at_then_ret ?_
                  refine at_then_ret ?_
                  refine at_block_ret ?_
                  refine at_then_ret ?_
                  refine at_ret1 Try.results86 (ro_tmp rfl) (fun w1 hp => ?_)
                  refine ⟨?_, hp.ext0⟩
                  first | (rw [mindB_step hk2 (by rw [hst]; by_cases q1 : d < 0 <;> by_cases q2 : c = 0 <;> by_cases q3 : d = -1 <;> first | (exfalso; omega) | (exfalso; rw [show (c == 0) = false from by simpa using q2, show (d == -1) = false from by simpa using q3] at h3; simp at h3; done) | (simp_all [inB]; done) | (simp_all [inB]; omega))]; done) | (rw [mindB_end hall]; unfold mindH; first | (simp_all; done) | (simp_all [inB]; done)) | (rw [mindB_head (by unfold mindH; first | (simp_all; done) | (simp_all [inB]; omega))]; done)
                ·
                  have g6' := g6
                  try simp only [Bool.not_eq_true', Bool.not_eq_false', Bool.not_not, decide_eq_true_eq, decide_eq_false_iff_not, beq_iff_eq, beq_eq_false_iff_ne, bne_iff_ne, bne_eq_false_iff_eq, Bool.and_eq_true, Bool.or_eq_true, Bool.and_eq_false_iff, Bool.or_eq_false_iff, inB] at g6'
                  refine rl_val (gw_some rfl rfl g6) (ov_move rfl) rfl ?_
                  refine rl_val (gw_some rfl rfl g6) (ov_lss rfl rfl) rfl ?_
                  refine rl_val (gw_some rfl rfl g6) (ov_field fo29_1 rfl) rfl ?_
                  first | refine rl_val (gw_some rfl rfl g6) (ov_load 0 sc27 rfl rfl rfl) rfl ?_ | refine rl_val (gw_some rfl rfl g6) (ov_load 0 sc27 rfl rfl (by assumption)) rfl ?_
                  refine rl_val (gw_some rfl rfl g6) (ov_move rfl) rfl ?_
                  refine rl_val (gw_some rfl rfl g6) (ov_ix Try.underlying27 sz3 rfl rfl _ rfl (by omega)) rfl ?_
                  first | refine rl_val (gw_some rfl rfl g6) (ov_load 0 sc3 rfl rfl rfl) rfl ?_ | refine rl_val (gw_some rfl rfl g6) (ov_load 1 sc3 rfl rfl rfl) rfl ?_ | refine rl_val (gw_some rfl rfl g6) (ov_load 2 sc3 rfl rfl rfl) rfl ?_ | refine rl_val (gw_some rfl rfl g6) (ov_load 3 sc3 rfl rfl rfl) rfl ?_ | refine rl_val (gw_some rfl rfl g6) (ov_loadw sc3 rfl (by assumption)) rfl ?_ | refine rl_val (gw_some rfl rfl g6) (ov_load 0 sc3 rfl rfl (by assumption)) rfl ?_ | refine rl_val (gw_some rfl rfl g6) (ov_load 1 sc3 rfl rfl (by assumption)) rfl ?_ | refine rl_val (gw_some rfl rfl g6) (ov_load 2 sc3 rfl rfl (by assumption)) rfl ?_ | refine rl_val (gw_some rfl rfl g6) (ov_load 3 sc3 rfl rfl (by assumption)) rfl ?_
                  refine rl_val (gw_some rfl rfl g6) (ov_eql rfl rfl) rfl ?_
                  refine rl_val (gw_some rfl rfl g6) (ov_neb Try.underlying4 rfl rfl) rfl ?_
                  refine rl_val gw_none (ov_pick_f rfl g6 rfl) rfl ?_
                  refine rl_nil ?_
                  refine at_then ?_
                  first | refine ct_dec rfl (fun h3 => ?_) (fun h3 => ?_) | refine ct_ndec rfl (fun h3 => ?_) (fun h3 => ?_) | refine ct_eq rfl (fun h3 => ?_) (fun h3 => ?_) | refine ct_ne rfl (fun h3 => ?_) (fun h3 => ?_) | refine ct_not rfl (fun h3 => ?_) (fun h3 => ?_) | refine ct_cond rfl (fun h3 => ?_) (fun h3 => ?_)
                  ·
                    refine ct_seq ?_
                    refine ct_reg ?_
                    refine rl_val gw_none (ov_assign rfl) rfl ?_
                    refine rl_nil ?_
                    refine at_then ?_
                    refine ct_ret ?_
                    refine at_block_ret ?_
                    refine at_then_ret ?_
                    refine at_then_ret ?_
                    refine at_block_ret ?_
                    refine at_then_ret ?_
                    refine at_ret1 Try.results86 (ro_tmp rfl) (fun w1 hp => ?_)
                    refine ⟨?_, hp.ext0⟩
                    first | (rw [mindB_step hk2 (by rw [hst]; by_cases q1 : d < 0 <;> by_cases q2 : c = 0 <;> by_cases q3 : d = -1 <;> first | (exfalso; omega) | (exfalso; rw [show (c == 0) = false from by simpa using q2, show (d == -1) = false from by simpa using q3] at h3; simp at h3; done) | (simp_all [inB]; done) | (simp_all [inB]; omega))]; done) | (rw [mindB_end hall]; unfold mindH; first | (simp_all; done) | (simp_all [inB]; done)) | (rw [mindB_head (by unfold mindH; first | (simp_all; done) | (simp_all [inB]; omega))]; done)
                  ·
                    refine ct_skip ?_
                    refine at_block ?_
                    refine at_then ?_
                    refine ct_reg ?_
                    refine rl_val gw_none (ov_add rfl rfl (by omega)) rfl ?_
                    refine rl_val gw_none (ov_move rfl) rfl ?_
                    refine rl_nil ?_
                    have hstT : mindStep cl im k = true := by rw [hst]; by_cases q1 : d < 0 <;> by_cases q2 : c = 0 <;> by_cases q3 : d = -1 <;> first | (exfalso; omega) | (exfalso; rw [show (c == 0) = false from by simpa using q2, show (d == -1) = false from by simpa using q3] at h3; simp at h3; done) | (simp_all [inB]; done) | (simp_all [inB]; omega)
                    exact at_backR (k + 1) (hgood hstT) (by first | exact True.intro | omega | (dsimp only; omega) | (dsimp only at *; omega)) (by (repeat' (first | exact Sub.nil | refine Sub.cons ?_ ?_)); all_goals (first | rfl | exact lkInt rfl (by omega))) (Sub.cons rfl (Sub.cons rfl (Sub.cons rfl Sub.nil))) (fun _ hq => hq)
            ·
              have hke : k = im.length := by omega
              subst hke
              refine ct_exit ?_
              refine at_then_exit ?_
              refine at_then_exit ?_
              refine at_block_hit ?_
              refine at_then ?_
              refine ct_seq ?_
              refine ct_reg ?_
              refine rl_val gw_none (ov_assign rfl) rfl ?_
              refine rl_nil ?_
              refine at_then ?_
              refine ct_ret ?_
              refine at_ret1 Try.results86 (ro_tmp rfl) (fun w1 hp => ?_)
              refine ⟨?_, hp.ext0⟩
              first | (rw [mindB_step hk2 (by rw [hst]; by_cases q1 : d < 0 <;> by_cases q2 : c = 0 <;> by_cases q3 : d = -1 <;> first | (exfalso; omega) | (exfalso; rw [show (c == 0) = false from by simpa using q2, show (d == -1) = false from by simpa using q3] at h3; simp at h3; done) | (simp_all [inB]; done) | (simp_all [inB]; omega))]; done) | (rw [mindB_end hall]; unfold mindH; first | (simp_all; done) | (simp_all [inB]; done)) | (rw [mindB_head (by unfold mindH; first | (simp_all; done) | (simp_all [inB]; omega))]; done)

theorem l21Good_c (u : Int) (l : Int) (xs : List IntA2) (cl : List Int) (im : List Int) (be : Int) (gu : Int) (vxs : Value) (vcl : Value) (vim : Value) (w : World) (zu : In64 u) (zl : In64 l) (hGxs : ∀ y ∈ xs, GIntA2 y) (hsxs : SR w 2 vxs xs.length (flat encIntA2 xs)) (hscl : SR w 1 vcl cl.length (ints cl)) (hsim : SR w 1 vim im.length (ints im)) (zbe : In64 be) (zgu : In64 gu) : Calls Try.prog 83 ([.agg (List.toArray (α := Value) [.int .i64 u, .int .i64 l, vxs, vcl, vim, .int .i64 be, .int .i64 gu])]).toArray w (fun e w' => e = .returned (.bool (mindB u l xs cl im be gu)) ∧ Ext w w') := by
  obtain ⟨axs, capxs, rfl, hcapxs, hmaxxs⟩ := hsxs.slice
  have hlenxs := hsxs.len_le
  obtain ⟨acl, capcl, rfl, hcapcl, hmaxcl⟩ := hscl.slice
  have hlencl := hscl.len_le
  obtain ⟨aim, capim, rfl, hcapim, hmaxim⟩ := hsim.slice
  have hlenim := hsim.len_le
  refine calls_ct Try.func83 Try.ntmps83 rfl rfl ?_
  refine ct_seq ?_
  refine ct_reg ?_
  refine rl_box rfl rfl (fun N1 => ?_)
  refine rl_val gw_none (ov_assign rfl) rfl ?_
  refine rl_nil ?_
  refine at_then ?_
  refine ct_seq ?_
  refine ct_reg ?_
  refine rl_val gw_none (ov_field fo29_0 rfl) rfl ?_
  refine rl_val gw_none (ov_field fo26_2 rfl) rfl ?_
  first | refine rl_val gw_none (ov_load 0 sc22 rfl rfl rfl) rfl ?_ | refine rl_val gw_none (ov_load 0 sc22 rfl rfl (by assumption)) rfl ?_
  refine rl_val gw_none (ov_len Try.underlying22 rfl) rfl ?_
  refine rl_val gw_none (ov_assign rfl) rfl ?_
  refine rl_nil ?_
  refine at_then ?_
  refine ct_seq ?_
  refine ct_seq ?_
  refine ct_reg ?_
  refine rl_val gw_none (ov_field fo29_0 rfl) rfl ?_
  first | refine rl_val gw_none (ov_loadall 0 ag26 rfl rfl rfl) rfl ?_ | refine rl_val gw_none (ov_loadp 0 ag26 rfl rfl (vs := [_, _, _]) rfl rfl) rfl ?_ | refine rl_val gw_none (ov_loada 0 ag26 rfl rfl rfl (by assumption)) rfl ?_
  refine rl_callv gw_none goes74 rfl (fun w1 hp => l2Standard_c u l xs _ _ zu zl hGxs (hsxs.ext hp.ext0)) rfl ?_
  refine rl_val gw_none (ov_not rfl) rfl ?_
  refine rl_val gw_none (ov_move rfl) rfl ?_
  refine rl_split (t := 13) rfl (fun g1 => ?_) (fun g1 => ?_)
  ·
    have g1' := g1
    try simp only [Bool.not_eq_true', Bool.not_eq_false', Bool.not_not, decide_eq_true_eq, decide_eq_false_iff_not, beq_iff_eq, beq_eq_false_iff_ne, bne_iff_ne, bne_eq_false_iff_eq, Bool.and_eq_true, Bool.or_eq_true, Bool.and_eq_false_iff, Bool.or_eq_false_iff, inB] at g1'
    refine rl_skip (gw_not rfl rfl g1) rfl ?_
    refine rl_skip (gw_not rfl rfl g1) rfl ?_
    refine rl_skip (gw_not rfl rfl g1) rfl ?_
    refine rl_skip (gw_not rfl rfl g1) rfl ?_
    refine rl_skip (gw_not rfl rfl g1) rfl ?_
    refine rl_val gw_none (ov_pick_t rfl g1 rfl) rfl ?_
    refine rl_val gw_none (ov_move rfl) rfl ?_
    refine rl_skip (gw_not rfl rfl rfl) rfl ?_
    refine rl_skip (gw_not rfl rfl rfl) rfl ?_
    refine rl_skip (gw_not rfl rfl rfl) rfl ?_
    refine rl_skip (gw_not rfl rfl rfl) rfl ?_
    refine rl_skip (gw_not rfl rfl rfl) rfl ?_
    refine rl_val gw_none (ov_pick_t rfl rfl rfl) rfl ?_
    refine rl_val gw_none (ov_move rfl) rfl ?_
    refine rl_skip (gw_not rfl rfl rfl) rfl ?_
    refine rl_skip (gw_not rfl rfl rfl) rfl ?_
    refine rl_skip (gw_not rfl rfl rfl) rfl ?_
    refine rl_skip (gw_not rfl rfl rfl) rfl ?_
    refine rl_val gw_none (ov_pick_t rfl rfl rfl) rfl ?_
    refine rl_val gw_none (ov_move rfl) rfl ?_
    refine rl_skip (gw_not rfl rfl rfl) rfl ?_
    refine rl_skip (gw_not rfl rfl rfl) rfl ?_
    refine rl_skip (gw_not rfl rfl rfl) rfl ?_
    refine rl_skip (gw_not rfl rfl rfl) rfl ?_
    refine rl_val gw_none (ov_pick_t rfl rfl rfl) rfl ?_
    refine rl_nil ?_
    refine at_then ?_
    refine ct_true rfl rfl ?_
    refine ct_seq ?_
    refine ct_reg ?_
    refine rl_val gw_none (ov_assign rfl) rfl ?_
    refine rl_nil ?_
    refine at_then ?_
    refine ct_ret ?_
    refine at_then_ret ?_
    refine at_ret1 Try.results83 (ro_tmp rfl) (fun w1 hp => ?_)
    refine ⟨?_, hp.ext0⟩
    first | (rw [mindB_step hk2 (by rw [hst]; by_cases q1 : d < 0 <;> by_cases q2 : c = 0 <;> by_cases q3 : d = -1 <;> first | (exfalso; omega) | (exfalso; rw [show (c == 0) = false from by simpa using q2, show (d == -1) = false from by simpa using q3] at h3; simp at h3; done) | (simp_all [inB]; done) | (simp_all [inB]; omega))]; done) | (rw [mindB_end hall]; unfold mindH; first | (simp_all; done) | (simp_all [inB]; done)) | (rw [mindB_head (by unfold mindH; first | (simp_all; done) | (simp_all [inB]; omega))]; done)
  ·
    have g1' := g1
    try simp only [Bool.not_eq_true', Bool.not_eq_false', Bool.not_not, decide_eq_true_eq, decide_eq_false_iff_not, beq_iff_eq, beq_eq_false_iff_ne, bne_iff_ne, bne_eq_false_iff_eq, Bool.and_eq_true, Bool.or_eq_true, Bool.and_eq_false_iff, Bool.or_eq_false_iff, inB] at g1'
    refine rl_val (gw_some rfl rfl g1) (ov_field fo29_1 rfl) rfl ?_
    first | refine rl_val (gw_some rfl rfl g1) (ov_load 0 sc27 rfl rfl rfl) rfl ?_ | refine rl_val (gw_some rfl rfl g1) (ov_load 0 sc27 rfl rfl (by assumption)) rfl ?_
    refine rl_val (gw_some rfl rfl g1) (ov_len Try.underlying27 rfl) rfl ?_
    refine rl_val (gw_some rfl rfl g1) (ov_move rfl) rfl ?_
    refine rl_val (gw_some rfl rfl g1) (ov_neq rfl rfl) rfl ?_
    refine rl_val gw_none (ov_pick_f rfl g1 rfl) rfl ?_
    refine rl_val gw_none (ov_move rfl) rfl ?_
    refine rl_split (t := 20) rfl (fun g2 => ?_) (fun g2 => ?_)
    ·
      have g2' := g2
      try simp only [Bool.not_eq_true', Bool.not_eq_false', Bool.not_not, decide_eq_true_eq, decide_eq_false_iff_not, beq_iff_eq, beq_eq_false_iff_ne, bne_iff_ne, bne_eq_false_iff_eq, Bool.and_eq_true, Bool.or_eq_true, Bool.and_eq_false_iff, Bool.or_eq_false_iff, inB] at g2'
      refine rl_skip (gw_not rfl rfl g2) rfl ?_
      refine rl_skip (gw_not rfl rfl g2) rfl ?_
      refine rl_skip (gw_not rfl rfl g2) rfl ?_
      refine rl_skip (gw_not rfl rfl g2) rfl ?_
      refine rl_skip (gw_not rfl rfl g2) rfl ?_
      refine rl_val gw_none (ov_pick_t rfl g2 rfl) rfl ?_
      refine rl_val gw_none (ov_move rfl) rfl ?_
      refine rl_skip (gw_not rfl rfl rfl) rfl ?_
      refine rl_skip (gw_not rfl rfl rfl) rfl ?_
      refine rl_skip (gw_not rfl rfl rfl) rfl ?_
      refine rl_skip (gw_not rfl rfl rfl) rfl ?_
      refine rl_val gw_none (ov_pick_t rfl rfl rfl) rfl ?_
      refine rl_val gw_none (ov_move rfl) rfl ?_
      refine rl_skip (gw_not rfl rfl rfl) rfl ?_
      refine rl_skip (gw_not rfl rfl rfl) rfl ?_
      refine rl_skip (gw_not rfl rfl rfl) rfl ?_
      refine rl_skip (gw_not rfl rfl rfl) rfl ?_
      refine rl_val gw_none (ov_pick_t rfl rfl rfl) rfl ?_
      refine rl_nil ?_
      refine at_then ?_
      refine ct_true rfl rfl ?_
      refine ct_seq ?_
      refine ct_reg ?_
      refine rl_val gw_none (ov_assign rfl) rfl ?_
      refine rl_nil ?_
      refine at_then ?_
      refine ct_ret ?_
      refine at_then_ret ?_
      refine at_ret1 Try.results83 (ro_tmp rfl) (fun w1 hp => ?_)
      refine ⟨?_, hp.ext0⟩
      first | (rw [mindB_step hk2 (by rw [hst]; by_cases q1 : d < 0 <;> by_cases q2 : c = 0 <;> by_cases q3 : d = -1 <;> first | (exfalso; omega) | (exfalso; rw [show (c == 0) = false from by simpa using q2, show (d == -1) = false from by simpa using q3] at h3; simp at h3; done) | (simp_all [inB]; done) | (simp_all [inB]; omega))]; done) | (rw [mindB_end hall]; unfold mindH; first | (simp_all; done) | (simp_all [inB]; done)) | (rw [mindB_head (by unfold mindH; first | (simp_all; done) | (simp_all [inB]; omega))]; done)
    ·
      have g2' := g2
      try simp only [Bool.not_eq_true', Bool.not_eq_false', Bool.not_not, decide_eq_true_eq, decide_eq_false_iff_not, beq_iff_eq, beq_eq_false_iff_ne, bne_iff_ne, bne_eq_false_iff_eq, Bool.and_eq_true, Bool.or_eq_true, Bool.and_eq_false_iff, Bool.or_eq_false_iff, inB] at g2'
      refine rl_val (gw_some rfl rfl g2) (ov_field fo29_2 rfl) rfl ?_
      first | refine rl_val (gw_some rfl rfl g2) (ov_load 0 sc27 rfl rfl rfl) rfl ?_ | refine rl_val (gw_some rfl rfl g2) (ov_load 0 sc27 rfl rfl (by assumption)) rfl ?_
      refine rl_val (gw_some rfl rfl g2) (ov_len Try.underlying27 rfl) rfl ?_
      refine rl_val (gw_some rfl rfl g2) (ov_move rfl) rfl ?_
      refine rl_val (gw_some rfl rfl g2) (ov_neq rfl rfl) rfl ?_
      refine rl_val gw_none (ov_pick_f rfl g2 rfl) rfl ?_
      refine rl_val gw_none (ov_move rfl) rfl ?_
      refine rl_split (t := 27) rfl (fun g3 => ?_) (fun g3 => ?_)
      ·
        have g3' := g3
        try simp only [Bool.not_eq_true', Bool.not_eq_false', Bool.not_not, decide_eq_true_eq, decide_eq_false_iff_not, beq_iff_eq, beq_eq_false_iff_ne, bne_iff_ne, bne_eq_false_iff_eq, Bool.and_eq_true, Bool.or_eq_true, Bool.and_eq_false_iff, Bool.or_eq_false_iff, inB] at g3'
        refine rl_skip (gw_not rfl rfl g3) rfl ?_
        refine rl_skip (gw_not rfl rfl g3) rfl ?_
        refine rl_skip (gw_not rfl rfl g3) rfl ?_
        refine rl_skip (gw_not rfl rfl g3) rfl ?_
        refine rl_val gw_none (ov_pick_t rfl g3 rfl) rfl ?_
        refine rl_val gw_none (ov_move rfl) rfl ?_
        refine rl_skip (gw_not rfl rfl rfl) rfl ?_
        refine rl_skip (gw_not rfl rfl rfl) rfl ?_
        refine rl_skip (gw_not rfl rfl rfl) rfl ?_
        refine rl_skip (gw_not rfl rfl rfl) rfl ?_
        refine rl_val gw_none (ov_pick_t rfl rfl rfl) rfl ?_
        refine rl_nil ?_
        refine at_then ?_
        refine ct_true rfl rfl ?_
        refine ct_seq ?_
        refine ct_reg ?_
        refine rl_val gw_none (ov_assign rfl) rfl ?_
        refine rl_nil ?_
        refine at_then ?_
        refine ct_ret ?_
        refine at_then_ret ?_
        refine at_ret1 Try.results83 (ro_tmp rfl) (fun w1 hp => ?_)
        refine ⟨?_, hp.ext0⟩
        first | (rw [mindB_step hk2 (by rw [hst]; by_cases q1 : d < 0 <;> by_cases q2 : c = 0 <;> by_cases q3 : d = -1 <;> first | (exfalso; omega) | (exfalso; rw [show (c == 0) = false from by simpa using q2, show (d == -1) = false from by simpa using q3] at h3; simp at h3; done) | (simp_all [inB]; done) | (simp_all [inB]; omega))]; done) | (rw [mindB_end hall]; unfold mindH; first | (simp_all; done) | (simp_all [inB]; done)) | (rw [mindB_head (by unfold mindH; first | (simp_all; done) | (simp_all [inB]; omega))]; done)
      ·
        have g3' := g3
        try simp only [Bool.not_eq_true', Bool.not_eq_false', Bool.not_not, decide_eq_true_eq, decide_eq_false_iff_not, beq_iff_eq, beq_eq_false_iff_ne, bne_iff_ne, bne_eq_false_iff_eq, Bool.and_eq_true, Bool.or_eq_true, Bool.and_eq_false_iff, Bool.or_eq_false_iff, inB] at g3'
        refine rl_val (gw_some rfl rfl g3) (ov_field fo29_3 rfl) rfl ?_
        first | refine rl_val (gw_some rfl rfl g3) (ov_load 0 sc3 rfl rfl rfl) rfl ?_ | refine rl_val (gw_some rfl rfl g3) (ov_load 0 sc3 rfl rfl (by assumption)) rfl ?_
        refine rl_callv (gw_some rfl rfl g3) goes116 rfl (fun w1 hp => l1In_c _ _ _ _) rfl ?_
        refine rl_val (gw_some rfl rfl g3) (ov_not rfl) rfl ?_
        refine rl_val gw_none (ov_pick_f rfl g3 rfl) rfl ?_
        refine rl_val gw_none (ov_move rfl) rfl ?_
        refine rl_split (t := 33) rfl (fun g4 => ?_) (fun g4 => ?_)
        ·
          have g4' := g4
          try simp only [Bool.not_eq_true', Bool.not_eq_false', Bool.not_not, decide_eq_true_eq, decide_eq_false_iff_not, beq_iff_eq, beq_eq_false_iff_ne, bne_iff_ne, bne_eq_false_iff_eq, Bool.and_eq_true, Bool.or_eq_true, Bool.and_eq_false_iff, Bool.or_eq_false_iff, inB] at g4'
          refine rl_skip (gw_not rfl rfl g4) rfl ?_
          refine rl_skip (gw_not rfl rfl g4) rfl ?_
          refine rl_skip (gw_not rfl rfl g4) rfl ?_
          refine rl_skip (gw_not rfl rfl g4) rfl ?_
          refine rl_val gw_none (ov_pick_t rfl g4 rfl) rfl ?_
          refine rl_nil ?_
          refine at_then ?_
          refine ct_true rfl rfl ?_
          refine ct_seq ?_
          refine ct_reg ?_
          refine rl_val gw_none (ov_assign rfl) rfl ?_
          refine rl_nil ?_
          refine at_then ?_
          refine ct_ret ?_
          refine at_then_ret ?_
          refine at_ret1 Try.results83 (ro_tmp rfl) (fun w1 hp => ?_)
          refine ⟨?_, hp.ext0⟩
          first | (rw [mindB_step hk2 (by rw [hst]; by_cases q1 : d < 0 <;> by_cases q2 : c = 0 <;> by_cases q3 : d = -1 <;> first | (exfalso; omega) | (exfalso; rw [show (c == 0) = false from by simpa using q2, show (d == -1) = false from by simpa using q3] at h3; simp at h3; done) | (simp_all [inB]; done) | (simp_all [inB]; omega))]; done) | (rw [mindB_end hall]; unfold mindH; first | (simp_all; done) | (simp_all [inB]; done)) | (rw [mindB_head (by unfold mindH; first | (simp_all; done) | (simp_all [inB]; omega))]; done)
        ·
          have g4' := g4
          try simp only [Bool.not_eq_true', Bool.not_eq_false', Bool.not_not, decide_eq_true_eq, decide_eq_false_iff_not, beq_iff_eq, beq_eq_false_iff_ne, bne_iff_ne, bne_eq_false_iff_eq, Bool.and_eq_true, Bool.or_eq_true, Bool.and_eq_false_iff, Bool.or_eq_false_iff, inB] at g4'
          refine rl_val (gw_some rfl rfl g4) (ov_field fo29_4 rfl) rfl ?_
          first | refine rl_val (gw_some rfl rfl g4) (ov_load 0 sc3 rfl rfl rfl) rfl ?_ | refine rl_val (gw_some rfl rfl g4) (ov_load 0 sc3 rfl rfl (by assumption)) rfl ?_
          refine rl_callv (gw_some rfl rfl g4) goes116 rfl (fun w1 hp => l1In_c _ _ _ _) rfl ?_
          refine rl_val (gw_some rfl rfl g4) (ov_not rfl) rfl ?_
          refine rl_val gw_none (ov_pick_f rfl g4 rfl) rfl ?_
          refine rl_nil ?_
          refine at_then ?_
          first | refine ct_dec rfl (fun h1 => ?_) (fun h1 => ?_) | refine ct_ndec rfl (fun h1 => ?_) (fun h1 => ?_) | refine ct_eq rfl (fun h1 => ?_) (fun h1 => ?_) | refine ct_ne rfl (fun h1 => ?_) (fun h1 => ?_) | refine ct_not rfl (fun h1 => ?_) (fun h1 => ?_) | refine ct_cond rfl (fun h1 => ?_) (fun h1 => ?_)
          ·
            refine ct_seq ?_
            refine ct_reg ?_
            refine rl_val gw_none (ov_assign rfl) rfl ?_
            refine rl_nil ?_
            refine at_then ?_
            refine ct_ret ?_
            refine at_then_ret ?_
            refine at_ret1 Try.results83 (ro_tmp rfl) (fun w1 hp => ?_)
            refine ⟨?_, hp.ext0⟩
            first | (rw [mindB_step hk2 (by rw [hst]; by_cases q1 : d < 0 <;> by_cases q2 : c = 0 <;> by_cases q3 : d = -1 <;> first | (exfalso; omega) | (exfalso; rw [show (c == 0) = false from by simpa using q2, show (d == -1) = false from by simpa using q3] at h3; simp at h3; done) | (simp_all [inB]; done) | (simp_all [inB]; omega))]; done) | (rw [mindB_end hall]; unfold mindH; first | (simp_all; done) | (simp_all [inB]; done)) | (rw [mindB_head (by unfold mindH; first | (simp_all; done) | (simp_all [inB]; omega))]; done)
          ·
            have hl1 : im.length = xs.length ∧ cl.length = xs.length := by omega
            refine ct_skip ?_
            refine at_then ?_
            refine ct_seq ?_
            refine ct_seq ?_
            refine ct_reg ?_
            refine rl_val gw_none (ov_assign rfl) rfl ?_
            refine rl_nil ?_
            refine at_then ?_
            refine ct_block ?_
            refine ct_loopR (ι := Nat) (fun k => [(4, .int .i64 k)]) [(1, _), (3, _)] (fun _ => _) (fun k => k ≤ im.length ∧ ∀ j, j < k → mindStep cl im j = true) (fun k => im.length - k) (0) (Sub.cons rfl (Sub.cons rfl Sub.nil)) (fun _ hq => hq) (by (repeat' (first | exact Sub.nil | refine Sub.cons ?_ ?_)); all_goals (first | rfl | exact lkInt rfl (by omega))) ⟨Nat.zero_le _, fun j hj => absurd hj (Nat.not_lt_zero j)⟩ (fun k hi => ?_)
            obtain ⟨hk, hall⟩ := hi
            refine ct_seq ?_
            refine ct_seq ?_
            refine ct_reg ?_
            refine rl_val gw_none (ov_move rfl) rfl ?_
            refine rl_val gw_none (ov_move rfl) rfl ?_
            refine rl_val gw_none (ov_lss rfl rfl) rfl ?_
            refine rl_nil ?_
            refine at_then ?_
            first | refine ct_dec rfl (fun h2 => ?_) (fun h2 => ?_) | refine ct_ndec rfl (fun h2 => ?_) (fun h2 => ?_) | refine ct_eq rfl (fun h2 => ?_) (fun h2 => ?_) | refine ct_ne rfl (fun h2 => ?_) (fun h2 => ?_) | refine ct_not rfl (fun h2 => ?_) (fun h2 => ?_) | refine ct_cond rfl (fun h2 => ?_) (fun h2 => ?_)
            ·
              have hk2 : k < im.length := by omega
              have hkc : k < cl.length := by omega
              obtain ⟨bi, oi, rfl, hei⟩ := hsim.int hk2
              obtain ⟨bc, oc, rfl, hec⟩ := hscl.int hkc
              have hxi := getLt hk2
              have hxc := getLt hkc
              have hst := mindStep_eq hxi hxc
              have hgood : mindStep cl im k = true → (k + 1 ≤ im.length ∧ ∀ j, j < k + 1 → mindStep cl im j = true) := fun ht => ⟨hk2, fun j hj => by by_cases hjk : j = k; exact hjk ▸ ht; exact hall j (by omega)⟩
              generalize im[k] = d at *
              generalize cl[k] = c at *
              have hci := hei k d hxi
              have hcc := hec k c hxc
              refine ct_skip ?_
              refine at_then ?_
              refine ct_seq ?_
              refine ct_block ?_
              refine ct_seq ?_
              refine ct_dr 31 (by kernel_rfl) (by kernel_rfl) ?_
              refine ql_val gw_none (ov_field fo29_2 rfl) rfl ?_
              first | refine ql_val gw_none (ov_load 0 sc27 rfl rfl rfl) rfl ?_ | refine ql_val gw_none (ov_load 0 sc27 rfl rfl (by assumption)) rfl ?_
              refine ql_val gw_none (ov_move rfl) rfl ?_
              refine ql_val gw_none (ov_ix Try.underlying27 sz3 rfl rfl _ rfl (by omega)) rfl ?_
              first | refine ql_val gw_none (ov_load 0 sc3 rfl rfl rfl) rfl ?_ | refine ql_val gw_none (ov_load 1 sc3 rfl rfl rfl) rfl ?_ | refine ql_val gw_none (ov_load 2 sc3 rfl rfl rfl) rfl ?_ | refine ql_val gw_none (ov_load 3 sc3 rfl rfl rfl) rfl ?_ | refine ql_val gw_none (ov_loadw sc3 rfl (by assumption)) rfl ?_ | refine ql_val gw_none (ov_load 0 sc3 rfl rfl (by assumption)) rfl ?_ | refine ql_val gw_none (ov_load 1 sc3 rfl rfl (by assumption)) rfl ?_ | refine ql_val gw_none (ov_load 2 sc3 rfl rfl (by assumption)) rfl ?_ | refine ql_val gw_none (ov_load 3 sc3 rfl rfl (by assumption)) rfl ?_
              refine ql_callv gw_none goes116 rfl (fun w1 hp => l1In_c _ _ _ _) rfl ?_
              refine ql_val gw_none (ov_not rfl) rfl ?_
              refine ql_val gw_none (ov_move rfl) rfl ?_
              refine ql_split (t := 51) rfl (fun g5 => ?_) (fun g5 => ?_)
              ·
                have g5' := g5
                try simp only [Bool.not_eq_true', Bool.not_eq_false', Bool.not_not, decide_eq_true_eq, decide_eq_false_iff_not, beq_iff_eq, beq_eq_false_iff_ne, bne_iff_ne, bne_eq_false_iff_eq, Bool.and_eq_true, Bool.or_eq_true, Bool.and_eq_false_iff, Bool.or_eq_false_iff, inB] at g5'
                refine ql_skip (gw_not rfl rfl g5) rfl ?_
                refine ql_skip (gw_not rfl rfl g5) rfl ?_
                refine ql_skip (gw_not rfl rfl g5) rfl ?_
                refine ql_skip (gw_not rfl rfl g5) rfl ?_
                refine ql_skip (gw_not rfl rfl g5) rfl ?_
                refine ql_skip (gw_not rfl rfl g5) rfl ?_
                refine ql_skip (gw_not rfl rfl g5) rfl ?_
                refine ql_val gw_none (ov_pick_t rfl g5 rfl) rfl ?_
                refine ql_val gw_none (ov_move rfl) rfl ?_
                refine ql_skip (gw_not rfl rfl rfl) rfl ?_
                refine ql_skip (gw_not rfl rfl rfl) rfl ?_
                refine ql_skip (gw_not rfl rfl rfl) rfl ?_
                refine ql_skip (gw_not rfl rfl rfl) rfl ?_
                refine ql_skip (gw_not rfl rfl rfl) rfl ?_
                refine ql_skip (gw_not rfl rfl rfl) rfl ?_
                refine ql_skip (gw_not rfl rfl rfl) rfl ?_
                refine ql_skip (gw_not rfl rfl rfl) rfl ?_
                refine ql_skip (gw_not rfl rfl rfl) rfl ?_
                refine ql_skip (gw_not rfl rfl rfl) rfl ?_
                refine ql_skip (gw_not rfl rfl rfl) rfl ?_
                refine ql_skip (gw_not rfl rfl rfl) rfl ?_
                refine ql_skip (gw_not rfl rfl rfl) rfl ?_
                refine ql_val gw_none (ov_pick_t rfl rfl rfl) rfl ?_
                refine ql_nil ?_
                refine rl_nil ?_
                refine at_then ?_
                refine ct_true rfl rfl ?_
                refine ct_seq ?_
                refine ct_reg ?_
                refine rl_val gw_none (ov_assign rfl) rfl ?_
                refine rl_nil ?_
                refine at_then ?_
                refine ct_ret ?_
                refine at_block_ret ?_
                refine at_then_ret ?_
                refine at_then_ret ?_
                refine at_block_ret ?_
                refine at_then_ret ?_
                refine at_ret1 Try.results83 (ro_tmp rfl) (fun w1 hp => ?_)
                refine ⟨?_, hp.ext0⟩
                first | (rw [mindB_step hk2 (by rw [hst]; by_cases q1 : d < 0 <;> by_cases q2 : c = 0 <;> by_cases q3 : d = -1 <;> first | (exfalso; omega) | (exfalso; rw [show (c == 0) = false from by simpa using q2, show (d == -1) = false from by simpa using q3] at h3; simp at h3; done) | (simp_all [inB]; done) | (simp_all [inB]; omega))]; done) | (rw [mindB_end hall]; unfold mindH; first | (simp_all; done) | (simp_all [inB]; done)) | (rw [mindB_head (by unfold mindH; first | (simp_all; done) | (simp_all [inB]; omega))]; done)
              ·
                have g5' := g5
                try simp only [Bool.not_eq_true', Bool.not_eq_false', Bool.not_not, decide_eq_true_eq, decide_eq_false_iff_not, beq_iff_eq, beq_eq_false_iff_ne, bne_iff_ne, bne_eq_false_iff_eq, Bool.and_eq_true, Bool.or_eq_true, Bool.and_eq_false_iff, Bool.or_eq_false_iff, inB] at g5'
                refine ql_val (gw_some rfl rfl g5) (ov_field fo29_1 rfl) rfl ?_
                first | refine ql_val (gw_some rfl rfl g5) (ov_load 0 sc27 rfl rfl rfl) rfl ?_ | refine ql_val (gw_some rfl rfl g5) (ov_load 0 sc27 rfl rfl (by assumption)) rfl ?_
                refine ql_val (gw_some rfl rfl g5) (ov_move rfl) rfl ?_
                refine ql_val (gw_some rfl rfl g5) (ov_ix Try.underlying27 sz3 rfl rfl _ rfl (by omega)) rfl ?_
                first | refine ql_val (gw_some rfl rfl g5) (ov_load 0 sc3 rfl rfl rfl) rfl ?_ | refine ql_val (gw_some rfl rfl g5) (ov_load 1 sc3 rfl rfl rfl) rfl ?_ | refine ql_val (gw_some rfl rfl g5) (ov_load 2 sc3 rfl rfl rfl) rfl ?_ | refine ql_val (gw_some rfl rfl g5) (ov_load 3 sc3 rfl rfl rfl) rfl ?_ | refine ql_val (gw_some rfl rfl g5) (ov_loadw sc3 rfl (by assumption)) rfl ?_ | refine ql_val (gw_some rfl rfl g5) (ov_load 0 sc3 rfl rfl (by assumption)) rfl ?_ | refine ql_val (gw_some rfl rfl g5) (ov_load 1 sc3 rfl rfl (by assumption)) rfl ?_ | refine ql_val (gw_some rfl rfl g5) (ov_load 2 sc3 rfl rfl (by assumption)) rfl ?_ | refine ql_val (gw_some rfl rfl g5) (ov_load 3 sc3 rfl rfl (by assumption)) rfl ?_
                refine ql_callv (gw_some rfl rfl g5) goes116 rfl (fun w1 hp => l1In_c _ _ _ _) rfl ?_
                refine ql_val (gw_some rfl rfl g5) (ov_not rfl) rfl ?_
                refine ql_val gw_none (ov_pick_f rfl g5 rfl) rfl ?_
                refine ql_val gw_none (ov_move rfl) rfl ?_
                refine ql_split (t := 60) rfl (fun g6 => ?_) (fun g6 => ?_)
                ·
                  have g6' := g6
                  try simp only [Bool.not_eq_true', Bool.not_eq_false', Bool.not_not, decide_eq_true_eq, decide_eq_false_iff_not, beq_iff_eq, beq_eq_false_iff_ne, bne_iff_ne, bne_eq_false_iff_eq, Bool.and_eq_true, Bool.or_eq_true, Bool.and_eq_false_iff, Bool.or_eq_false_iff, inB] at g6'
                  refine ql_skip (gw_not rfl rfl g6) rfl ?_
                  refine ql_skip (gw_not rfl rfl g6) rfl ?_
                  refine ql_skip (gw_not rfl rfl g6) rfl ?_
                  refine ql_skip (gw_not rfl rfl g6) rfl ?_
                  refine ql_skip (gw_not rfl rfl g6) rfl ?_
                  refine ql_skip (gw_not rfl rfl g6) rfl ?_
                  refine ql_skip (gw_not rfl rfl g6) rfl ?_
                  refine ql_skip (gw_not rfl rfl g6) rfl ?_
                  refine ql_skip (gw_not rfl rfl g6) rfl ?_
                  refine ql_skip (gw_not rfl rfl g6) rfl ?_
                  refine ql_skip (gw_not rfl rfl g6) rfl ?_
                  refine ql_skip (gw_not rfl rfl g6) rfl ?_
                  refine ql_skip (gw_not rfl rfl g6) rfl ?_
                  refine ql_val gw_none (ov_pick_t rfl g6 rfl) rfl ?_
                  refine ql_nil ?_
                  refine rl_nil ?_
                  refine at_then ?_
                  refine ct_true rfl rfl ?_
                  refine ct_seq ?_
                  refine ct_reg ?_
                  refine rl_val gw_none (ov_assign rfl) rfl ?_
                  refine rl_nil ?_
                  refine at_then ?_
                  refine ct_ret ?_
                  refine at_block_ret ?_
                  refine at_then_ret ?_
                  refine at_then_ret ?_
                  refine at_block_ret ?_
                  refine at_then_ret ?_
                  refine at_ret1 Try.results83 (ro_tmp rfl) (fun w1 hp => ?_)
                  refine ⟨?_, hp.ext0⟩
                  first | (rw [mindB_step hk2 (by rw [hst]; by_cases q1 : d < 0 <;> by_cases q2 : c = 0 <;> by_cases q3 : d = -1 <;> first | (exfalso; omega) | (exfalso; rw [show (c == 0) = false from by simpa using q2, show (d == -1) = false from by simpa using q3] at h3; simp at h3; done) | (simp_all [inB]; done) | (simp_all [inB]; omega))]; done) | (rw [mindB_end hall]; unfold mindH; first | (simp_all; done) | (simp_all [inB]; done)) | (rw [mindB_head (by unfold mindH; first | (simp_all; done) | (simp_all [inB]; omega))]; done)
                ·
                  have g6' := g6
                  try simp only [Bool.not_eq_true', Bool.not_eq_false', Bool.not_not, decide_eq_true_eq, decide_eq_false_iff_not, beq_iff_eq, beq_eq_false_iff_ne, bne_iff_ne, bne_eq_false_iff_eq, Bool.and_eq_true, Bool.or_eq_true, Bool.and_eq_false_iff, Bool.or_eq_false_iff, inB] at g6'
                  refine ql_val (gw_some rfl rfl g6) (ov_field fo29_1 rfl) rfl ?_
                  first | refine ql_val (gw_some rfl rfl g6) (ov_load 0 sc27 rfl rfl rfl) rfl ?_ | refine ql_val (gw_some rfl rfl g6) (ov_load 0 sc27 rfl rfl (by assumption)) rfl ?_
                  refine ql_val (gw_some rfl rfl g6) (ov_move rfl) rfl ?_
                  refine ql_val (gw_some rfl rfl g6) (ov_ix Try.underlying27 sz3 rfl rfl _ rfl (by omega)) rfl ?_
                  first | refine ql_val (gw_some rfl rfl g6) (ov_load 0 sc3 rfl rfl rfl) rfl ?_ | refine ql_val (gw_some rfl rfl g6) (ov_load 1 sc3 rfl rfl rfl) rfl ?_ | refine ql_val (gw_some rfl rfl g6) (ov_load 2 sc3 rfl rfl rfl) rfl ?_ | refine ql_val (gw_some rfl rfl g6) (ov_load 3 sc3 rfl rfl rfl) rfl ?_ | refine ql_val (gw_some rfl rfl g6) (ov_loadw sc3 rfl (by assumption)) rfl ?_ | refine ql_val (gw_some rfl rfl g6) (ov_load 0 sc3 rfl rfl (by assumption)) rfl ?_ | refine ql_val (gw_some rfl rfl g6) (ov_load 1 sc3 rfl rfl (by assumption)) rfl ?_ | refine ql_val (gw_some rfl rfl g6) (ov_load 2 sc3 rfl rfl (by assumption)) rfl ?_ | refine ql_val (gw_some rfl rfl g6) (ov_load 3 sc3 rfl rfl (by assumption)) rfl ?_
                  refine ql_val (gw_some rfl rfl g6) (ov_eql rfl rfl) rfl ?_
                  refine ql_val (gw_some rfl rfl g6) (ov_field fo29_2 rfl) rfl ?_
                  first | refine ql_val (gw_some rfl rfl g6) (ov_load 0 sc27 rfl rfl rfl) rfl ?_ | refine ql_val (gw_some rfl rfl g6) (ov_load 0 sc27 rfl rfl (by assumption)) rfl ?_
                  refine ql_val (gw_some rfl rfl g6) (ov_move rfl) rfl ?_
                  refine ql_val (gw_some rfl rfl g6) (ov_ix Try.underlying27 sz3 rfl rfl _ rfl (by omega)) rfl ?_
                  first | refine ql_val (gw_some rfl rfl g6) (ov_load 0 sc3 rfl rfl rfl) rfl ?_ | refine ql_val (gw_some rfl rfl g6) (ov_load 1 sc3 rfl rfl rfl) rfl ?_ | refine ql_val (gw_some rfl rfl g6) (ov_load 2 sc3 rfl rfl rfl) rfl ?_ | refine ql_val (gw_some rfl rfl g6) (ov_load 3 sc3 rfl rfl rfl) rfl ?_ | refine ql_val (gw_some rfl rfl g6) (ov_loadw sc3 rfl (by assumption)) rfl ?_ | refine ql_val (gw_some rfl rfl g6) (ov_load 0 sc3 rfl rfl (by assumption)) rfl ?_ | refine ql_val (gw_some rfl rfl g6) (ov_load 1 sc3 rfl rfl (by assumption)) rfl ?_ | refine ql_val (gw_some rfl rfl g6) (ov_load 2 sc3 rfl rfl (by assumption)) rfl ?_ | refine ql_val (gw_some rfl rfl g6) (ov_load 3 sc3 rfl rfl (by assumption)) rfl ?_
                  refine ql_val (gw_some rfl rfl g6) (ov_eql rfl rfl) rfl ?_
                  refine ql_val (gw_some rfl rfl g6) (ov_neb Try.underlying4 rfl rfl) rfl ?_
                  refine ql_val gw_none (ov_pick_f rfl g6 rfl) rfl ?_
                  refine ql_nil ?_
                  refine rl_nil ?_
                  refine at_then ?_
                  first | refine ct_dec rfl (fun h3 => ?_) (fun h3 => ?_) | refine ct_ndec rfl (fun h3 => ?_) (fun h3 => ?_) | refine ct_eq rfl (fun h3 => ?_) (fun h3 => ?_) | refine ct_ne rfl (fun h3 => ?_) (fun h3 => ?_) | refine ct_not rfl (fun h3 => ?_) (fun h3 => ?_) | refine ct_cond rfl (fun h3 => ?_) (fun h3 => ?_)
                  ·
                    refine ct_seq ?_
                    refine ct_reg ?_
                    refine rl_val gw_none (ov_assign rfl) rfl ?_
                    refine rl_nil ?_
                    refine at_then ?_
                    refine ct_ret ?_
                    refine at_block_ret ?_
                    refine at_then_ret ?_
                    refine at_then_ret ?_
                    refine at_block_ret ?_
                    refine at_then_ret ?_
                    refine at_ret1 Try.results83 (ro_tmp rfl) (fun w1 hp => ?_)
                    refine ⟨?_, hp.ext0⟩
                    first | (rw [mindB_step hk2 (by rw [hst]; by_cases q1 : d < 0 <;> by_cases q2 : c = 0 <;> by_cases q3 : d = -1 <;> first | (exfalso; omega) | (exfalso; rw [show (c == 0) = false from by simpa using q2, show (d == -1) = false from by simpa using q3] at h3; simp at h3; done) | (simp_all [inB]; done) | (simp_all [inB]; omega))]; done) | (rw [mindB_end hall]; unfold mindH; first | (simp_all; done) | (simp_all [inB]; done)) | (rw [mindB_head (by unfold mindH; first | (simp_all; done) | (simp_all [inB]; omega))]; done)
                  ·
                    refine ct_skip ?_
                    refine at_block ?_
                    refine at_then ?_
                    refine ct_reg ?_
                    refine rl_val gw_none (ov_move rfl) rfl ?_
                    refine rl_val gw_none (ov_add rfl rfl (by omega)) rfl ?_
                    refine rl_val gw_none (ov_assign rfl) rfl ?_
                    refine rl_nil ?_
                    have hstT : mindStep cl im k = true := by rw [hst]; by_cases q1 : d < 0 <;> by_cases q2 : c = 0 <;> by_cases q3 : d = -1 <;> first | (exfalso; omega) | (exfalso; rw [show (c == 0) = false from by simpa using q2, show (d == -1) = false from by simpa using q3] at h3; simp at h3; done) | (simp_all [inB]; done) | (simp_all [inB]; omega)
                    exact at_backR (k + 1) (hgood hstT) (by first | exact True.intro | omega | (dsimp only; omega) | (dsimp only at *; omega)) (by (repeat' (first | exact Sub.nil | refine Sub.cons ?_ ?_)); all_goals (first | rfl | exact lkInt rfl (by omega))) (Sub.cons rfl (Sub.cons rfl Sub.nil)) (fun _ hq => hq)
            ·
              have hke : k = im.length := by omega
              subst hke
              refine ct_exit ?_
              refine at_then_exit ?_
              refine at_then_exit ?_
              refine at_block_hit ?_
              refine at_then ?_
              refine ct_seq ?_
              refine ct_reg ?_
              refine rl_val gw_none (ov_assign rfl) rfl ?_
              refine rl_nil ?_
              refine at_then ?_
              refine ct_ret ?_
              refine at_ret1 Try.results83 (ro_tmp rfl) (fun w1 hp => ?_)
              refine ⟨?_, hp.ext0⟩
              first | (rw [mindB_step hk2 (by rw [hst]; by_cases q1 : d < 0 <;> by_cases q2 : c = 0 <;> by_cases q3 : d = -1 <;> first | (exfalso; omega) | (exfalso; rw [show (c == 0) = false from by simpa using q2, show (d == -1) = false from by simpa using q3] at h3; simp at h3; done) | (simp_all [inB]; done) | (simp_all [inB]; omega))]; done) | (rw [mindB_end hall]; unfold mindH; first | (simp_all; done) | (simp_all [inB]; done)) | (rw [mindB_head (by unfold mindH; first | (simp_all; done) | (simp_all [inB]; omega))]; done)
end Go.Proofs.Ytnnhkpecgchgiaa
