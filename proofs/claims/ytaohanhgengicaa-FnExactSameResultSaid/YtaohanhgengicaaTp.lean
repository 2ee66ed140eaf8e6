import Derived.Test.YtaohanhgengicaaTo
import Derived.KernelRfl
set_option linter.unusedVariables false
set_option linter.unusedSimpArgs false
namespace Go.Proofs.Ytaohanhgengicaa
open Go Go.RowKit K
theorem iSameResult_c (u : Int) (l : Int) (xs : List IntA2) (ms : List BeadMove) (ns : List BeadMove) (vxs : Value) (vms : Value) (vns : Value) (w : World) (zu : In64 u) (zl : In64 l) (hGxs : ∀ y ∈ xs, GIntA2 y) (hsxs : SR w 2 vxs xs.length (flat encIntA2 xs)) (hGms : ∀ y ∈ ms, GBeadMove y) (hsms : SR w 3 vms ms.length (flat encBeadMove ms)) (hGns : ∀ y ∈ ns, GBeadMove y) (hsns : SR w 3 vns ns.length (flat encBeadMove ns)) : Calls Try.prog 49 ([.agg (List.toArray (α := Value) [.int .i64 u, .int .i64 l, vxs]), vms, vns]).toArray w (fun e w' => e = .returned (.tuple #[.bool (same2R u l xs ms ns), .bool (same2B u l xs ms ns)]) ∧ Ext w w') := by
  obtain ⟨axs, capxs, rfl, hcapxs, hmaxxs⟩ := hsxs.slice
  have hlenxs := hsxs.len_le
  obtain ⟨ams, capms, rfl, hcapms, hmaxms⟩ := hsms.slice
  have hlenms := hsms.len_le
  obtain ⟨ans, capns, rfl, hcapns, hmaxns⟩ := hsns.slice
  have hlenns := hsns.len_le
  refine calls_ct Try.func49 Try.ntmps49 rfl rfl ?_
  refine ct_seq ?_
  refine ct_reg ?_
  refine rl_box rfl rfl (fun N1 => ?_)
  refine rl_val gw_none (ov_assign rfl) rfl ?_
  refine rl_val gw_none (ov_assign rfl) rfl ?_
  refine rl_nil ?_
  refine at_then ?_
  refine ct_seq ?_
  refine ct_seq ?_
  refine ct_reg ?_
  first | refine rl_val gw_none (ov_loadall 0 ag24 rfl rfl rfl) rfl ?_ | refine rl_val gw_none (ov_loadp 0 ag24 rfl rfl (vs := [_, _, _]) rfl rfl) rfl ?_ | refine rl_val gw_none (ov_loada 0 ag24 rfl rfl rfl (by assumption)) rfl ?_
  refine rl_callv gw_none goes56 rfl (fun w1 hp => iIsFrame_c u l xs _ _ zu zl hGxs (hsxs.ext hp.ext0)) rfl ?_
  refine rl_val gw_none (ov_not rfl) rfl ?_
  refine rl_val gw_none (ov_move rfl) rfl ?_
  refine rl_split (t := 15) rfl (fun g1 => ?_) (fun g1 => ?_)
  ·
    have g1' := g1
    try simp only [Bool.not_eq_true', Bool.not_eq_false', Bool.not_not, decide_eq_true_eq, decide_eq_false_iff_not, beq_iff_eq, beq_eq_false_iff_ne, bne_iff_ne, bne_eq_false_iff_eq, Bool.and_eq_true, Bool.or_eq_true, Bool.and_eq_false_iff, Bool.or_eq_false_iff, inB] at g1'
    refine rl_skip (gw_not rfl rfl g1) rfl ?_
    refine rl_skip (gw_not rfl rfl g1) rfl ?_
    refine rl_skip (gw_not rfl rfl g1) rfl ?_
    refine rl_val gw_none (ov_pick_t rfl g1 rfl) rfl ?_
    refine rl_val gw_none (ov_move rfl) rfl ?_
    refine rl_skip (gw_not rfl rfl rfl) rfl ?_
    refine rl_skip (gw_not rfl rfl rfl) rfl ?_
    refine rl_skip (gw_not rfl rfl rfl) rfl ?_
    refine rl_val gw_none (ov_pick_t rfl rfl rfl) rfl ?_
    refine rl_nil ?_
    refine at_then ?_
    refine ct_true rfl rfl ?_
    refine ct_seq ?_
    refine ct_reg ?_
    refine rl_val gw_none (ov_assign rfl) rfl ?_
    refine rl_val gw_none (ov_assign rfl) rfl ?_
    refine rl_nil ?_
    refine at_then ?_
    refine ct_ret ?_
    refine at_then_ret ?_
    refine at_ret2 Try.results49 (ro_tmp rfl) (ro_tmp rfl) (fun w1 hp => ?_)
    refine ⟨?_, hp.ext0⟩
    first | (rw [same2_yes hb, hb, ← beq_iff' hr]; done) | (have hb := same2_bad (u := u) (l := l) (xs := xs) (ms := ms) (ns := ns) (.inl (by have hq := g1; (try simp only [Bool.not_eq_true', Bool.not_eq_false'] at hq); exact hq)); rw [same2_no hb, hb]; done) | (have hb := same2_bad (u := u) (l := l) (xs := xs) (ms := ms) (ns := ns) (.inr (.inl (by have hq := g2; (try simp only [Bool.not_eq_true', Bool.not_eq_false'] at hq); exact hq))); rw [same2_no hb, hb]; done) | (have hb := same2_bad (u := u) (l := l) (xs := xs) (ms := ms) (ns := ns) (.inr (.inr (.inl (by have hq := h1; (try simp only [Bool.not_eq_true', Bool.not_eq_false'] at hq); exact hq)))); rw [same2_no hb, hb]; done) | (have hb := same2_bad (u := u) (l := l) (xs := xs) (ms := ms) (ns := ns) (.inr (.inr (.inr (.inl (by have hq := g3; (try simp only [Bool.not_eq_true', Bool.not_eq_false'] at hq); exact hq))))); rw [same2_no hb, hb]; done) | (have hb := same2_bad (u := u) (l := l) (xs := xs) (ms := ms) (ns := ns) (.inr (.inr (.inr (.inr (by have hq := h2; (try simp only [Bool.not_eq_true', Bool.not_eq_false'] at hq); exact hq))))); rw [same2_no hb, hb]; done)
  ·
    have g1' := g1
    try simp only [Bool.not_eq_true', Bool.not_eq_false', Bool.not_not, decide_eq_true_eq, decide_eq_false_iff_not, beq_iff_eq, beq_eq_false_iff_ne, bne_iff_ne, bne_eq_false_iff_eq, Bool.and_eq_true, Bool.or_eq_true, Bool.and_eq_false_iff, Bool.or_eq_false_iff, inB] at g1'
    refine rl_val (gw_some rfl rfl g1) (ov_move rfl) rfl ?_
    refine rl_callv (gw_some rfl rfl g1) goes89 rfl (fun w1 hp => areRecorded_c ms _ _ hGms (hsms.ext hp.ext0)) rfl ?_
    refine rl_val (gw_some rfl rfl g1) (ov_not rfl) rfl ?_
    refine rl_val gw_none (ov_pick_f rfl g1 rfl) rfl ?_
    refine rl_val gw_none (ov_move rfl) rfl ?_
    refine rl_split (t := 20) rfl (fun g2 => ?_) (fun g2 => ?_)
    ·
      have g2' := g2
      try simp only [Bool.not_eq_true', Bool.not_eq_false', Bool.not_not, decide_eq_true_eq, decide_eq_false_iff_not, beq_iff_eq, beq_eq_false_iff_ne, bne_iff_ne, bne_eq_false_iff_eq, Bool.and_eq_true, Bool.or_eq_true, Bool.and_eq_false_iff, Bool.or_eq_false_iff, inB] at g2'
      refine rl_skip (gw_not rfl rfl g2) rfl ?_
      refine rl_skip (gw_not rfl rfl g2) rfl ?_
      refine rl_skip (gw_not rfl rfl g2) rfl ?_
      refine rl_val gw_none (ov_pick_t rfl g2 rfl) rfl ?_
      refine rl_nil ?_
      refine at_then ?_
      refine ct_true rfl rfl ?_
      refine ct_seq ?_
      refine ct_reg ?_
      refine rl_val gw_none (ov_assign rfl) rfl ?_
      refine rl_val gw_none (ov_assign rfl) rfl ?_
      refine rl_nil ?_
      refine at_then ?_
      refine ct_ret ?_
      refine at_then_ret ?_
      refine at_ret2 Try.results49 (ro_tmp rfl) (ro_tmp rfl) (fun w1 hp => ?_)
      refine ⟨?_, hp.ext0⟩
      first | (rw [same2_yes hb, hb, ← beq_iff' hr]; done) | (have hb := same2_bad (u := u) (l := l) (xs := xs) (ms := ms) (ns := ns) (.inl (by have hq := g1; (try simp only [Bool.not_eq_true', Bool.not_eq_false'] at hq); exact hq)); rw [same2_no hb, hb]; done) | (have hb := same2_bad (u := u) (l := l) (xs := xs) (ms := ms) (ns := ns) (.inr (.inl (by have hq := g2; (try simp only [Bool.not_eq_true', Bool.not_eq_false'] at hq); exact hq))); rw [same2_no hb, hb]; done) | (have hb := same2_bad (u := u) (l := l) (xs := xs) (ms := ms) (ns := ns) (.inr (.inr (.inl (by have hq := h1; (try simp only [Bool.not_eq_true', Bool.not_eq_false'] at hq); exact hq)))); rw [same2_no hb, hb]; done) | (have hb := same2_bad (u := u) (l := l) (xs := xs) (ms := ms) (ns := ns) (.inr (.inr (.inr (.inl (by have hq := g3; (try simp only [Bool.not_eq_true', Bool.not_eq_false'] at hq); exact hq))))); rw [same2_no hb, hb]; done) | (have hb := same2_bad (u := u) (l := l) (xs := xs) (ms := ms) (ns := ns) (.inr (.inr (.inr (.inr (by have hq := h2; (try simp only [Bool.not_eq_true', Bool.not_eq_false'] at hq); exact hq))))); rw [same2_no hb, hb]; done)
    ·
      have g2' := g2
      try simp only [Bool.not_eq_true', Bool.not_eq_false', Bool.not_not, decide_eq_true_eq, decide_eq_false_iff_not, beq_iff_eq, beq_eq_false_iff_ne, bne_iff_ne, bne_eq_false_iff_eq, Bool.and_eq_true, Bool.or_eq_true, Bool.and_eq_false_iff, Bool.or_eq_false_iff, inB] at g2'
      refine rl_val (gw_some rfl rfl g2) (ov_move rfl) rfl ?_
      refine rl_callv (gw_some rfl rfl g2) goes89 rfl (fun w1 hp => areRecorded_c ns _ _ hGns (hsns.ext hp.ext0)) rfl ?_
      refine rl_val (gw_some rfl rfl g2) (ov_not rfl) rfl ?_
      refine rl_val gw_none (ov_pick_f rfl g2 rfl) rfl ?_
      refine rl_nil ?_
      refine at_then ?_
      first | refine ct_dec rfl (fun h1 => ?_) (fun h1 => ?_) | refine ct_ndec rfl (fun h1 => ?_) (fun h1 => ?_) | refine ct_eq rfl (fun h1 => ?_) (fun h1 => ?_) | refine ct_ne rfl (fun h1 => ?_) (fun h1 => ?_) | refine ct_not rfl (fun h1 => ?_) (fun h1 => ?_) | refine ct_cond rfl (fun h1 => ?_) (fun h1 => ?_)
      ·
        refine ct_seq ?_
        refine ct_reg ?_
        refine rl_val gw_none (ov_assign rfl) rfl ?_
        refine rl_val gw_none (ov_assign rfl) rfl ?_
        refine rl_nil ?_
        refine at_then ?_
        refine ct_ret ?_
        refine at_then_ret ?_
        refine at_ret2 Try.results49 (ro_tmp rfl) (ro_tmp rfl) (fun w1 hp => ?_)
        refine ⟨?_, hp.ext0⟩
        first | (rw [same2_yes hb, hb, ← beq_iff' hr]; done) | (have hb := same2_bad (u := u) (l := l) (xs := xs) (ms := ms) (ns := ns) (.inl (by have hq := g1; (try simp only [Bool.not_eq_true', Bool.not_eq_false'] at hq); exact hq)); rw [same2_no hb, hb]; done) | (have hb := same2_bad (u := u) (l := l) (xs := xs) (ms := ms) (ns := ns) (.inr (.inl (by have hq := g2; (try simp only [Bool.not_eq_true', Bool.not_eq_false'] at hq); exact hq))); rw [same2_no hb, hb]; done) | (have hb := same2_bad (u := u) (l := l) (xs := xs) (ms := ms) (ns := ns) (.inr (.inr (.inl (by have hq := h1; (try simp only [Bool.not_eq_true', Bool.not_eq_false'] at hq); exact hq)))); rw [same2_no hb, hb]; done) | (have hb := same2_bad (u := u) (l := l) (xs := xs) (ms := ms) (ns := ns) (.inr (.inr (.inr (.inl (by have hq := g3; (try simp only [Bool.not_eq_true', Bool.not_eq_false'] at hq); exact hq))))); rw [same2_no hb, hb]; done) | (have hb := same2_bad (u := u) (l := l) (xs := xs) (ms := ms) (ns := ns) (.inr (.inr (.inr (.inr (by have hq := h2; (try simp only [Bool.not_eq_true', Bool.not_eq_false'] at hq); exact hq))))); rw [same2_no hb, hb]; done)
      ·
        have hf : frameB u l xs = true := (by have hq := g1; (try simp only [Bool.not_eq_true', Bool.not_eq_false'] at hq); exact hq)
        have hr1 : (movesB 60 ms && decide (ms.length ≤ 12)) = true := (by have hq := g2; (try simp only [Bool.not_eq_true', Bool.not_eq_false'] at hq); exact hq)
        have hr2 : (movesB 60 ns && decide (ns.length ≤ 12)) = true := (by have hq := h1; (try simp only [Bool.not_eq_true', Bool.not_eq_false'] at hq); exact hq)
        have hm1 : movesB 60 ms = true := (Bool.and_eq_true _ _ ▸ hr1 : _ ∧ _).1
        have hm2 : movesB 60 ns = true := (Bool.and_eq_true _ _ ▸ hr2 : _ ∧ _).1
        refine ct_skip ?_
        refine at_then ?_
        refine ct_seq ?_
        refine ct_reg ?_
        first | refine rl_val gw_none (ov_loadall 0 ag24 rfl rfl rfl) rfl ?_ | refine rl_val gw_none (ov_loadp 0 ag24 rfl rfl (vs := [_, _, _]) rfl rfl) rfl ?_ | refine rl_val gw_none (ov_loada 0 ag24 rfl rfl rfl (by assumption)) rfl ?_
        refine rl_val gw_none (ov_move rfl) rfl ?_
        refine rl_callsl (ι := Nat × List Value) (fun i bo => .tuple #[.agg [.int .i64 (playF u l xs ms).u, .int .i64 (playF u l xs ms).l, sv bo (playF u l xs ms).xs.length i.1].toArray, .bool (playF u l xs ms).ok]) (fun i => flat encIntA2 (playF u l xs ms).xs ++ i.2) (fun i bo => Sl 2 bo (playF u l xs ms).xs.length i.1 (flat encIntA2 (playF u l xs ms).xs) i.2) goes79 rfl (fun w1 hp => played_c u l xs ms _ _ _ zu zl hGxs (hsxs.ext hp.ext0) hGms (hsms.ext hp.ext0) hf (by unfold movesB at hm1; simp at hm1; simpa using hm1.2)) rfl (fun ifk bofk hsfk => ?_)
        refine rl_val gw_none (ov_move rfl) rfl ?_
        refine rl_val gw_none (ov_extract rfl rfl) rfl ?_
        refine rl_val gw_none (ov_extract rfl rfl) rfl ?_
        refine rl_alloc ze24 rfl (fun N2 => ?_)
        refine rl_store [] sz24 rfl rfl rfl rfl rfl (Nat.le_of_ble_eq_true rfl) ?_
        refine rl_val gw_none (ov_assign rfl) rfl ?_
        refine rl_nil ?_
        refine at_then ?_
        refine ct_seq ?_
        refine ct_reg ?_
        first | refine rl_val gw_none (ov_loadall 2 ag24 rfl rfl rfl) rfl ?_ | refine rl_val gw_none (ov_loadp 2 ag24 rfl rfl (vs := [_, _, _]) rfl rfl) rfl ?_ | refine rl_val gw_none (ov_loada 2 ag24 rfl rfl rfl (by assumption)) rfl ?_
        refine rl_val gw_none (ov_move rfl) rfl ?_
        refine rl_callsl (ι := Nat × List Value) (fun i bo => .tuple #[.agg [.int .i64 (playF u l xs ns).u, .int .i64 (playF u l xs ns).l, sv bo (playF u l xs ns).xs.length i.1].toArray, .bool (playF u l xs ns).ok]) (fun i => flat encIntA2 (playF u l xs ns).xs ++ i.2) (fun i bo => Sl 2 bo (playF u l xs ns).xs.length i.1 (flat encIntA2 (playF u l xs ns).xs) i.2) goes79 rfl (fun w1 hp => played_c u l xs ns _ _ _ zu zl hGxs (hsxs.ext hp.ext0) hGns (hsns.ext hp.ext0) hf (by unfold movesB at hm2; simp at hm2; simpa using hm2.2)) rfl (fun ifn bofn hsfn => ?_)
        refine rl_val gw_none (ov_move rfl) rfl ?_
        refine rl_val gw_none (ov_extract rfl rfl) rfl ?_
        refine rl_val gw_none (ov_extract rfl rfl) rfl ?_
        refine rl_alloc ze24 rfl (fun N3 => ?_)
        refine rl_store [] sz24 rfl rfl rfl rfl rfl (Nat.le_of_ble_eq_true rfl) ?_
        refine rl_val gw_none (ov_assign rfl) rfl ?_
        refine rl_nil ?_
        refine at_then ?_
        refine ct_seq ?_
        refine ct_seq ?_
        refine ct_reg ?_
        refine rl_val gw_none (ov_move rfl) rfl ?_
        refine rl_val gw_none (ov_not rfl) rfl ?_
        refine rl_val gw_none (ov_move rfl) rfl ?_
        refine rl_split (t := 39) rfl (fun g3 => ?_) (fun g3 => ?_)
        ·
          have g3' := g3
          try simp only [Bool.not_eq_true', Bool.not_eq_false', Bool.not_not, decide_eq_true_eq, decide_eq_false_iff_not, beq_iff_eq, beq_eq_false_iff_ne, bne_iff_ne, bne_eq_false_iff_eq, Bool.and_eq_true, Bool.or_eq_true, Bool.and_eq_false_iff, Bool.or_eq_false_iff, inB] at g3'
          refine rl_skip (gw_not rfl rfl g3) rfl ?_
          refine rl_skip (gw_not rfl rfl g3) rfl ?_
          refine rl_val gw_none (ov_pick_t rfl g3 rfl) rfl ?_
          refine rl_nil ?_
          refine at_then ?_
          refine ct_true rfl rfl ?_
          refine ct_seq ?_
          refine ct_reg ?_
          refine rl_val gw_none (ov_assign rfl) rfl ?_
          refine rl_val gw_none (ov_assign rfl) rfl ?_
          refine rl_nil ?_
          refine at_then ?_
          refine ct_ret ?_
          refine at_then_ret ?_
          refine at_ret2 Try.results49 (ro_tmp rfl) (ro_tmp rfl) (fun w1 hp => ?_)
          refine ⟨?_, hp.ext0⟩
          first | (rw [same2_yes hb, hb, ← beq_iff' hr]; done) | (have hb := same2_bad (u := u) (l := l) (xs := xs) (ms := ms) (ns := ns) (.inl (by have hq := g1; (try simp only [Bool.not_eq_true', Bool.not_eq_false'] at hq); exact hq)); rw [same2_no hb, hb]; done) | (have hb := same2_bad (u := u) (l := l) (xs := xs) (ms := ms) (ns := ns) (.inr (.inl (by have hq := g2; (try simp only [Bool.not_eq_true', Bool.not_eq_false'] at hq); exact hq))); rw [same2_no hb, hb]; done) | (have hb := same2_bad (u := u) (l := l) (xs := xs) (ms := ms) (ns := ns) (.inr (.inr (.inl (by have hq := h1; (try simp only [Bool.not_eq_true', Bool.not_eq_false'] at hq); exact hq)))); rw [same2_no hb, hb]; done) | (have hb := same2_bad (u := u) (l := l) (xs := xs) (ms := ms) (ns := ns) (.inr (.inr (.inr (.inl (by have hq := g3; (try simp only [Bool.not_eq_true', Bool.not_eq_false'] at hq); exact hq))))); rw [same2_no hb, hb]; done) | (have hb := same2_bad (u := u) (l := l) (xs := xs) (ms := ms) (ns := ns) (.inr (.inr (.inr (.inr (by have hq := h2; (try simp only [Bool.not_eq_true', Bool.not_eq_false'] at hq); exact hq))))); rw [same2_no hb, hb]; done)
        ·
          have g3' := g3
          try simp only [Bool.not_eq_true', Bool.not_eq_false', Bool.not_not, decide_eq_true_eq, decide_eq_false_iff_not, beq_iff_eq, beq_eq_false_iff_ne, bne_iff_ne, bne_eq_false_iff_eq, Bool.and_eq_true, Bool.or_eq_true, Bool.and_eq_false_iff, Bool.or_eq_false_iff, inB] at g3'
          refine rl_val (gw_some rfl rfl g3) (ov_move rfl) rfl ?_
          refine rl_val (gw_some rfl rfl g3) (ov_not rfl) rfl ?_
          refine rl_val gw_none (ov_pick_f rfl g3 rfl) rfl ?_
          refine rl_nil ?_
          refine at_then ?_
          first | refine ct_dec rfl (fun h2 => ?_) (fun h2 => ?_) | refine ct_ndec rfl (fun h2 => ?_) (fun h2 => ?_) | refine ct_eq rfl (fun h2 => ?_) (fun h2 => ?_) | refine ct_ne rfl (fun h2 => ?_) (fun h2 => ?_) | refine ct_not rfl (fun h2 => ?_) (fun h2 => ?_) | refine ct_cond rfl (fun h2 => ?_) (fun h2 => ?_)
          ·
            refine ct_seq ?_
            refine ct_reg ?_
            refine rl_val gw_none (ov_assign rfl) rfl ?_
            refine rl_val gw_none (ov_assign rfl) rfl ?_
            refine rl_nil ?_
            refine at_then ?_
            refine ct_ret ?_
            refine at_then_ret ?_
            refine at_ret2 Try.results49 (ro_tmp rfl) (ro_tmp rfl) (fun w1 hp => ?_)
            refine ⟨?_, hp.ext0⟩
            first | (rw [same2_yes hb, hb, ← beq_iff' hr]; done) | (have hb := same2_bad (u := u) (l := l) (xs := xs) (ms := ms) (ns := ns) (.inl (by have hq := g1; (try simp only [Bool.not_eq_true', Bool.not_eq_false'] at hq); exact hq)); rw [same2_no hb, hb]; done) | (have hb := same2_bad (u := u) (l := l) (xs := xs) (ms := ms) (ns := ns) (.inr (.inl (by have hq := g2; (try simp only [Bool.not_eq_true', Bool.not_eq_false'] at hq); exact hq))); rw [same2_no hb, hb]; done) | (have hb := same2_bad (u := u) (l := l) (xs := xs) (ms := ms) (ns := ns) (.inr (.inr (.inl (by have hq := h1; (try simp only [Bool.not_eq_true', Bool.not_eq_false'] at hq); exact hq)))); rw [same2_no hb, hb]; done) | (have hb := same2_bad (u := u) (l := l) (xs := xs) (ms := ms) (ns := ns) (.inr (.inr (.inr (.inl (by have hq := g3; (try simp only [Bool.not_eq_true', Bool.not_eq_false'] at hq); exact hq))))); rw [same2_no hb, hb]; done) | (have hb := same2_bad (u := u) (l := l) (xs := xs) (ms := ms) (ns := ns) (.inr (.inr (.inr (.inr (by have hq := h2; (try simp only [Bool.not_eq_true', Bool.not_eq_false'] at hq); exact hq))))); rw [same2_no hb, hb]; done)
          ·
            have ho1 : (playF u l xs ms).ok = true := (by have hq := g3; (try simp only [Bool.not_eq_true', Bool.not_eq_false'] at hq); exact hq)
            have ho2 : (playF u l xs ns).ok = true := (by have hq := h2; (try simp only [Bool.not_eq_true', Bool.not_eq_false'] at hq); exact hq)
            obtain ⟨hl1, hf1⟩ := playF_frame hf ho1
            obtain ⟨hl2, hf2⟩ := playF_frame hf ho2
            have hb := same2_good hf hr1 hr2 ho1 ho2
            refine ct_skip ?_
            refine at_then ?_
            refine ct_seq ?_
            refine ct_reg ?_
            refine rl_val gw_none (ov_field fo24_2 rfl) rfl ?_
            first | refine rl_val gw_none (ov_load 2 sc22 rfl rfl rfl) rfl ?_ | refine rl_val gw_none (ov_load 2 sc22 rfl rfl (by assumption)) rfl ?_
            refine rl_val gw_none (ov_field fo24_2 rfl) rfl ?_
            first | refine rl_val gw_none (ov_load 0 sc22 rfl rfl rfl) rfl ?_ | refine rl_val gw_none (ov_load 0 sc22 rfl rfl (by assumption)) rfl ?_
            refine rl_callx (ι := Int) (fun r => .int .i64 r) (fun r => (r = 0 ↔ sameD (playF u l xs ms).xs (playF u l xs ns).xs = true)) gw_none goes90 rfl (fun w1 hp => comp_c u l _ _ _ _ _ hf1 hf2 (by omega) (hp.slsr 3 rfl hsfk) (hp.slsr 1 rfl hsfn)) rfl (fun r hr => ?_)
            refine rl_val gw_none (ov_eql rfl rfl) rfl ?_
            refine rl_val gw_none (ov_assign rfl) rfl ?_
            refine rl_val gw_none (ov_assign rfl) rfl ?_
            refine rl_nil ?_
            refine at_then ?_
            refine ct_ret ?_
            refine at_ret2 Try.results49 (ro_tmp rfl) (ro_tmp rfl) (fun w1 hp => ?_)
            refine ⟨?_, hp.ext0⟩
            first | (rw [same2_yes hb, hb, ← beq_iff' hr]; done) | (have hb := same2_bad (u := u) (l := l) (xs := xs) (ms := ms) (ns := ns) (.inl (by have hq := g1; (try simp only [Bool.not_eq_true', Bool.not_eq_false'] at hq); exact hq)); rw [same2_no hb, hb]; done) | (have hb := same2_bad (u := u) (l := l) (xs := xs) (ms := ms) (ns := ns) (.inr (.inl (by have hq := g2; (try simp only [Bool.not_eq_true', Bool.not_eq_false'] at hq); exact hq))); rw [same2_no hb, hb]; done) | (have hb := same2_bad (u := u) (l := l) (xs := xs) (ms := ms) (ns := ns) (.inr (.inr (.inl (by have hq := h1; (try simp only [Bool.not_eq_true', Bool.not_eq_false'] at hq); exact hq)))); rw [same2_no hb, hb]; done) | (have hb := same2_bad (u := u) (l := l) (xs := xs) (ms := ms) (ns := ns) (.inr (.inr (.inr (.inl (by have hq := g3; (try simp only [Bool.not_eq_true', Bool.not_eq_false'] at hq); exact hq))))); rw [same2_no hb, hb]; done) | (have hb := same2_bad (u := u) (l := l) (xs := xs) (ms := ms) (ns := ns) (.inr (.inr (.inr (.inr (by have hq := h2; (try simp only [Bool.not_eq_true', Bool.not_eq_false'] at hq); exact hq))))); rw [same2_no hb, hb]; done)

theorem sSameResult_c (u : Int) (l : Int) (xs : List IntA2) (ms : List BeadMove) (ns : List BeadMove) (vxs : Value) (vms : Value) (vns : Value) (w : World) (zu : In64 u) (zl : In64 l) (hGxs : ∀ y ∈ xs, GIntA2 y) (hsxs : SR w 2 vxs xs.length (flat encIntA2 xs)) (hGms : ∀ y ∈ ms, GBeadMove y) (hsms : SR w 3 vms ms.length (flat encBeadMove ms)) (hGns : ∀ y ∈ ns, GBeadMove y) (hsns : SR w 3 vns ns.length (flat encBeadMove ns)) : Calls Try.prog 48 ([.agg (List.toArray (α := Value) [.int .i64 u, .int .i64 l, vxs]), vms, vns]).toArray w (fun e w' => e = .returned (.tuple #[.bool (same2R u l xs ms ns), .bool (same2B u l xs ms ns)]) ∧ Ext w w') := by
  obtain ⟨axs, capxs, rfl, hcapxs, hmaxxs⟩ := hsxs.slice
  have hlenxs := hsxs.len_le
  obtain ⟨ams, capms, rfl, hcapms, hmaxms⟩ := hsms.slice
  have hlenms := hsms.len_le
  obtain ⟨ans, capns, rfl, hcapns, hmaxns⟩ := hsns.slice
  have hlenns := hsns.len_le
  refine calls_ct Try.func48 Try.ntmps48 rfl rfl ?_
  refine ct_seq ?_
  refine ct_reg ?_
  refine rl_box rfl rfl (fun N1 => ?_)
  refine rl_val gw_none (ov_assign rfl) rfl ?_
  refine rl_val gw_none (ov_assign rfl) rfl ?_
  refine rl_nil ?_
  refine at_then ?_
  refine ct_seq ?_
  refine ct_reg ?_
  first | refine rl_val gw_none (ov_loadall 0 ag24 rfl rfl rfl) rfl ?_ | refine rl_val gw_none (ov_loadp 0 ag24 rfl rfl (vs := [_, _, _]) rfl rfl) rfl ?_ | refine rl_val gw_none (ov_loada 0 ag24 rfl rfl rfl (by assumption)) rfl ?_
  refine rl_val gw_none (ov_move rfl) rfl ?_
  refine rl_callsl (ι := Nat × List Value) (fun i bo => .tuple #[.agg [.int .i64 (playR u l xs ms).u, .int .i64 (playR u l xs ms).l, sv bo (playR u l xs ms).xs.length i.1].toArray, .bool (playR u l xs ms).ok]) (fun i => flat encIntA2 (playR u l xs ms).xs ++ i.2) (fun i bo => Sl 2 bo (playR u l xs ms).xs.length i.1 (flat encIntA2 (playR u l xs ms).xs) i.2) goes32 rfl (fun w1 hp => sPlayMoves_c u l xs ms _ _ _ zu zl hGxs (hsxs.ext hp.ext0) hGms (hsms.ext hp.ext0)) rfl (fun ifk bofk hsfk => ?_)
  refine rl_val gw_none (ov_move rfl) rfl ?_
  refine rl_val gw_none (ov_extract rfl rfl) rfl ?_
  refine rl_val gw_none (ov_extract rfl rfl) rfl ?_
  refine rl_alloc ze24 rfl (fun N2 => ?_)
  refine rl_store [] sz24 rfl rfl rfl rfl rfl (Nat.le_of_ble_eq_true rfl) ?_
  refine rl_val gw_none (ov_assign rfl) rfl ?_
  refine rl_nil ?_
  refine at_then ?_
  refine ct_seq ?_
  refine ct_reg ?_
  first | refine rl_val gw_none (ov_loadall 2 ag24 rfl rfl rfl) rfl ?_ | refine rl_val gw_none (ov_loadp 2 ag24 rfl rfl (vs := [_, _, _]) rfl rfl) rfl ?_ | refine rl_val gw_none (ov_loada 2 ag24 rfl rfl rfl (by assumption)) rfl ?_
  refine rl_val gw_none (ov_move rfl) rfl ?_
  refine rl_callsl (ι := Nat × List Value) (fun i bo => .tuple #[.agg [.int .i64 (playR u l xs ns).u, .int .i64 (playR u l xs ns).l, sv bo (playR u l xs ns).xs.length i.1].toArray, .bool (playR u l xs ns).ok]) (fun i => flat encIntA2 (playR u l xs ns).xs ++ i.2) (fun i bo => Sl 2 bo (playR u l xs ns).xs.length i.1 (flat encIntA2 (playR u l xs ns).xs) i.2) goes32 rfl (fun w1 hp => sPlayMoves_c u l xs ns _ _ _ zu zl hGxs (hsxs.ext hp.ext0) hGns (hsns.ext hp.ext0)) rfl (fun ifn bofn hsfn => ?_)
  refine rl_val gw_none (ov_move rfl) rfl ?_
  refine rl_val gw_none (ov_extract rfl rfl) rfl ?_
  refine rl_val gw_none (ov_extract rfl rfl) rfl ?_
  refine rl_alloc ze24 rfl (fun N3 => ?_)
  refine rl_store [] sz24 rfl rfl rfl rfl rfl (Nat.le_of_ble_eq_true rfl) ?_
  refine rl_val gw_none (ov_assign rfl) rfl ?_
  refine rl_nil ?_
  refine at_then ?_
  refine ct_seq ?_
  refine ct_seq ?_
  refine ct_reg ?_
  refine rl_val gw_none (ov_move rfl) rfl ?_
  refine rl_val gw_none (ov_move rfl) rfl ?_
  refine rl_callv gw_none goes87 rfl (fun w1 hp => l19Both_c ms ns _ _ _ hGms (hsms.ext hp.ext0) hGns (hsns.ext hp.ext0)) rfl ?_
  refine rl_val gw_none (ov_not rfl) rfl ?_
  refine rl_val gw_none (ov_move rfl) rfl ?_
  refine rl_split (t := 28) rfl (fun g1 => ?_) (fun g1 => ?_)
  ·
    have g1' := g1
    try simp only [Bool.not_eq_true', Bool.not_eq_false', Bool.not_not, decide_eq_true_eq, decide_eq_false_iff_not, beq_iff_eq, beq_eq_false_iff_ne, bne_iff_ne, bne_eq_false_iff_eq, Bool.and_eq_true, Bool.or_eq_true, Bool.and_eq_false_iff, Bool.or_eq_false_iff, inB] at g1'
    refine rl_skip (gw_not rfl rfl g1) rfl ?_
    refine rl_skip (gw_not rfl rfl g1) rfl ?_
    refine rl_val gw_none (ov_pick_t rfl g1 rfl) rfl ?_
    refine rl_val gw_none (ov_move rfl) rfl ?_
    refine rl_skip (gw_not rfl rfl rfl) rfl ?_
    refine rl_skip (gw_not rfl rfl rfl) rfl ?_
    refine rl_val gw_none (ov_pick_t rfl rfl rfl) rfl ?_
    refine rl_nil ?_
    refine at_then ?_
    refine ct_true rfl rfl ?_
    refine ct_seq ?_
    refine ct_reg ?_
    refine rl_val gw_none (ov_assign rfl) rfl ?_
    refine rl_val gw_none (ov_assign rfl) rfl ?_
    refine rl_nil ?_
    refine at_then ?_
    refine ct_ret ?_
    refine at_then_ret ?_
    refine at_ret2 Try.results48 (ro_tmp rfl) (ro_tmp rfl) (fun w1 hp => ?_)
    refine ⟨?_, hp.ext0⟩
    first | (rw [same2_yes hb, hb, ← beq_iff' hr2]; done) | (have hb := same2_badR (u := u) (l := l) (xs := xs) (ms := ms) (ns := ns) (.inl (by have hq := g2; (try simp only [Bool.not_eq_true', Bool.not_eq_false'] at hq); exact hq)); rw [same2_no hb, hb]; done) | (have hb := same2_badR (u := u) (l := l) (xs := xs) (ms := ms) (ns := ns) (.inr (by have hq := h1; (try simp only [Bool.not_eq_true', Bool.not_eq_false'] at hq); exact hq)); rw [same2_no hb, hb]; done) | (have hb : same2B u l xs ms ns = false := (by have hg : ((movesB 60 ms && decide (ms.length ≤ 12)) && (movesB 60 ns && decide (ns.length ≤ 12))) = false := (by have hq := g1; (try simp only [Bool.not_eq_true', Bool.not_eq_false'] at hq); exact hq); rcases Bool.and_eq_false_iff.1 hg with hg | hg; exact same2_bad (.inr (.inl hg)); exact same2_bad (.inr (.inr (.inl hg)))); rw [same2_no hb, hb]; done)
  ·
    have g1' := g1
    try simp only [Bool.not_eq_true', Bool.not_eq_false', Bool.not_not, decide_eq_true_eq, decide_eq_false_iff_not, beq_iff_eq, beq_eq_false_iff_ne, bne_iff_ne, bne_eq_false_iff_eq, Bool.and_eq_true, Bool.or_eq_true, Bool.and_eq_false_iff, Bool.or_eq_false_iff, inB] at g1'
    refine rl_val (gw_some rfl rfl g1) (ov_move rfl) rfl ?_
    refine rl_val (gw_some rfl rfl g1) (ov_not rfl) rfl ?_
    refine rl_val gw_none (ov_pick_f rfl g1 rfl) rfl ?_
    refine rl_val gw_none (ov_move rfl) rfl ?_
    refine rl_split (t := 32) rfl (fun g2 => ?_) (fun g2 => ?_)
    ·
      have g2' := g2
      try simp only [Bool.not_eq_true', Bool.not_eq_false', Bool.not_not, decide_eq_true_eq, decide_eq_false_iff_not, beq_iff_eq, beq_eq_false_iff_ne, bne_iff_ne, bne_eq_false_iff_eq, Bool.and_eq_true, Bool.or_eq_true, Bool.and_eq_false_iff, Bool.or_eq_false_iff, inB] at g2'
      refine rl_skip (gw_not rfl rfl g2) rfl ?_
      refine rl_skip (gw_not rfl rfl g2) rfl ?_
      refine rl_val gw_none (ov_pick_t rfl g2 rfl) rfl ?_
      refine rl_nil ?_
      refine at_then ?_
      refine ct_true rfl rfl ?_
      refine ct_seq ?_
      refine ct_reg ?_
      refine rl_val gw_none (ov_assign rfl) rfl ?_
      refine rl_val gw_none (ov_assign rfl) rfl ?_
      refine rl_nil ?_
      refine at_then ?_
      refine ct_ret ?_
      refine at_then_ret ?_
      refine at_ret2 Try.results48 (ro_tmp rfl) (ro_tmp rfl) (fun w1 hp => ?_)
      refine ⟨?_, hp.ext0⟩
      first | (rw [same2_yes hb, hb, ← beq_iff' hr2]; done) | (have hb := same2_badR (u := u) (l := l) (xs := xs) (ms := ms) (ns := ns) (.inl (by have hq := g2; (try simp only [Bool.not_eq_true', Bool.not_eq_false'] at hq); exact hq)); rw [same2_no hb, hb]; done) | (have hb := same2_badR (u := u) (l := l) (xs := xs) (ms := ms) (ns := ns) (.inr (by have hq := h1; (try simp only [Bool.not_eq_true', Bool.not_eq_false'] at hq); exact hq)); rw [same2_no hb, hb]; done) | (have hb : same2B u l xs ms ns = false := (by have hg : ((movesB 60 ms && decide (ms.length ≤ 12)) && (movesB 60 ns && decide (ns.length ≤ 12))) = false := (by have hq := g1; (try simp only [Bool.not_eq_true', Bool.not_eq_false'] at hq); exact hq); rcases Bool.and_eq_false_iff.1 hg with hg | hg; exact same2_bad (.inr (.inl hg)); exact same2_bad (.inr (.inr (.inl hg)))); rw [same2_no hb, hb]; done)
    ·
      have g2' := g2
      try simp only [Bool.not_eq_true', Bool.not_eq_false', Bool.not_not, decide_eq_true_eq, decide_eq_false_iff_not, beq_iff_eq, beq_eq_false_iff_ne, bne_iff_ne, bne_eq_false_iff_eq, Bool.and_eq_true, Bool.or_eq_true, Bool.and_eq_false_iff, Bool.or_eq_false_iff, inB] at g2'
      refine rl_val (gw_some rfl rfl g2) (ov_move rfl) rfl ?_
      refine rl_val (gw_some rfl rfl g2) (ov_not rfl) rfl ?_
      refine rl_val gw_none (ov_pick_f rfl g2 rfl) rfl ?_
      refine rl_nil ?_
      refine at_then ?_
      first | refine ct_dec rfl (fun h1 => ?_) (fun h1 => ?_) | refine ct_ndec rfl (fun h1 => ?_) (fun h1 => ?_) | refine ct_eq rfl (fun h1 => ?_) (fun h1 => ?_) | refine ct_ne rfl (fun h1 => ?_) (fun h1 => ?_) | refine ct_not rfl (fun h1 => ?_) (fun h1 => ?_) | refine ct_cond rfl (fun h1 => ?_) (fun h1 => ?_)
      ·
        refine ct_seq ?_
        refine ct_reg ?_
        refine rl_val gw_none (ov_assign rfl) rfl ?_
        refine rl_val gw_none (ov_assign rfl) rfl ?_
        refine rl_nil ?_
        refine at_then ?_
        refine ct_ret ?_
        refine at_then_ret ?_
        refine at_ret2 Try.results48 (ro_tmp rfl) (ro_tmp rfl) (fun w1 hp => ?_)
        refine ⟨?_, hp.ext0⟩
        first | (rw [same2_yes hb, hb, ← beq_iff' hr2]; done) | (have hb := same2_badR (u := u) (l := l) (xs := xs) (ms := ms) (ns := ns) (.inl (by have hq := g2; (try simp only [Bool.not_eq_true', Bool.not_eq_false'] at hq); exact hq)); rw [same2_no hb, hb]; done) | (have hb := same2_badR (u := u) (l := l) (xs := xs) (ms := ms) (ns := ns) (.inr (by have hq := h1; (try simp only [Bool.not_eq_true', Bool.not_eq_false'] at hq); exact hq)); rw [same2_no hb, hb]; done) | (have hb : same2B u l xs ms ns = false := (by have hg : ((movesB 60 ms && decide (ms.length ≤ 12)) && (movesB 60 ns && decide (ns.length ≤ 12))) = false := (by have hq := g1; (try simp only [Bool.not_eq_true', Bool.not_eq_false'] at hq); exact hq); rcases Bool.and_eq_false_iff.1 hg with hg | hg; exact same2_bad (.inr (.inl hg)); exact same2_bad (.inr (.inr (.inl hg)))); rw [same2_no hb, hb]; done)
      ·
        have hr12 : ((movesB 60 ms && decide (ms.length ≤ 12)) && (movesB 60 ns && decide (ns.length ≤ 12))) = true := (by have hq := g1; (try simp only [Bool.not_eq_true', Bool.not_eq_false'] at hq); exact hq)
        rw [Bool.and_eq_true] at hr12
        obtain ⟨hf, hm1, he1⟩ := playR_okE (show (playR u l xs ms).ok = true from (by have hq := g2; (try simp only [Bool.not_eq_true', Bool.not_eq_false'] at hq); exact hq))
        obtain ⟨_, hm2, he2⟩ := playR_okE (show (playR u l xs ns).ok = true from (by have hq := h1; (try simp only [Bool.not_eq_true', Bool.not_eq_false'] at hq); exact hq))
        have ho1 : (playR u l xs ms).ok = true := (by have hq := g2; (try simp only [Bool.not_eq_true', Bool.not_eq_false'] at hq); exact hq)
        have ho2 : (playR u l xs ns).ok = true := (by have hq := h1; (try simp only [Bool.not_eq_true', Bool.not_eq_false'] at hq); exact hq)
        rw [he1] at ho1
        rw [he2] at ho2
        obtain ⟨hl1, hf1⟩ := playF_frame hf ho1
        obtain ⟨hl2, hf2⟩ := playF_frame hf ho2
        have hb := same2_good hf hr12.1 hr12.2 ho1 ho2
        rw [← he1] at hl1 hf1
        rw [← he2] at hl2 hf2
        refine ct_skip ?_
        refine at_then ?_
        refine ct_seq ?_
        refine ct_reg ?_
        first | refine rl_val gw_none (ov_loadall 2 ag24 rfl rfl rfl) rfl ?_ | refine rl_val gw_none (ov_loadp 2 ag24 rfl rfl (vs := [_, _, _]) rfl rfl) rfl ?_ | refine rl_val gw_none (ov_loada 2 ag24 rfl rfl rfl (by assumption)) rfl ?_
        first | refine rl_val gw_none (ov_loadall 0 ag24 rfl rfl rfl) rfl ?_ | refine rl_val gw_none (ov_loadp 0 ag24 rfl rfl (vs := [_, _, _]) rfl rfl) rfl ?_ | refine rl_val gw_none (ov_loada 0 ag24 rfl rfl rfl (by assumption)) rfl ?_
        refine rl_callx (ι := Option Nat × Nat × Nat) (fun i => sv i.1 i.2.1 i.2.2) (fun i => (i.2.1 = 0 ↔ sameD (playR u l xs ms).xs (playR u l xs ns).xs = true)) gw_none goes88 rfl (fun w1 hp => btw_c u l _ _ _ _ _ _ _ _ _ hf1 hf2 (by omega) (hp.slsr 3 rfl hsfk) (hp.slsr 1 rfl hsfn)) rfl (fun i hr => ?_)
        have hr2 : (i.2.1 : Int) = 0 ↔ sameD (playF u l xs ms).xs (playF u l xs ns).xs = true := by rw [← he1, ← he2, ← hr]; omega
        refine rl_val gw_none (ov_len Try.underlying46 rfl) rfl ?_
        refine rl_val gw_none (ov_eql rfl rfl) rfl ?_
        refine rl_val gw_none (ov_assign rfl) rfl ?_
        refine rl_val gw_none (ov_assign rfl) rfl ?_
        refine rl_nil ?_
        refine at_then ?_
        refine ct_ret ?_
        refine at_ret2 Try.results48 (ro_tmp rfl) (ro_tmp rfl) (fun w1 hp => ?_)
        refine ⟨?_, hp.ext0⟩
        first | (rw [same2_yes hb, hb, ← beq_iff' hr2]; done) | (have hb := same2_badR (u := u) (l := l) (xs := xs) (ms := ms) (ns := ns) (.inl (by have hq := g2; (try simp only [Bool.not_eq_true', Bool.not_eq_false'] at hq); exact hq)); rw [same2_no hb, hb]; done) | (have hb := same2_badR (u := u) (l := l) (xs := xs) (ms := ms) (ns := ns) (.inr (by have hq := h1; (try simp only [Bool.not_eq_true', Bool.not_eq_false'] at hq); exact hq)); rw [same2_no hb, hb]; done) | (have hb : same2B u l xs ms ns = false := (by have hg : ((movesB 60 ms && decide (ms.length ≤ 12)) && (movesB 60 ns && decide (ns.length ≤ 12))) = false := (by have hq := g1; (try simp only [Bool.not_eq_true', Bool.not_eq_false'] at hq); exact hq); rcases Bool.and_eq_false_iff.1 hg with hg | hg; exact same2_bad (.inr (.inl hg)); exact same2_bad (.inr (.inr (.inl hg)))); rw [same2_no hb, hb]; done)
end Go.Proofs.Ytaohanhgengicaa
