import Derived.Test.YtfelindekikaeaaTh
import Derived.Test.YtfelindekikaeaaIc
import Derived.KernelRfl
set_option linter.unusedVariables false
set_option linter.unusedSimpArgs false
namespace Go.Proofs.Ytfelindekikaeaa
open Go Go.RowKit K
theorem iMoveExhibit_c (xs : List Exhibit) (i : Int) (to : Int) (vxs : Value) (w : World) (hGxs : ∀ y ∈ xs, GExhibit y) (hsxs : SR w 7 vxs xs.length (flat encExhibit xs)) (zi : In64 i) (zto : In64 to) : Calls Try.prog 39 ([vxs, .int .i64 i, .int .i64 to]).toArray w (fun e w' => RetSl 46 7 (flat encExhibit (mvR xs i to)) ((mvR xs i to).length) (fun s => .tuple #[s, .bool (mvB xs i to)]) w e w') := by
  obtain ⟨axs, capxs, rfl, hcapxs, hmaxxs⟩ := hsxs.slice
  have hlenxs := hsxs.len_le
  refine calls_ct Try.func39 Try.ntmps39 rfl rfl ?_
  refine ct_seq ?_
  refine ct_reg ?_
  refine rl_val gw_none (ov_assign rfl) rfl ?_
  refine rl_val gw_none (ov_assign rfl) rfl ?_
  refine rl_nil ?_
  refine at_then ?_
  refine ct_seq ?_
  refine ct_reg ?_
  refine rl_val gw_none (ov_move rfl) rfl ?_
  refine rl_val gw_none (ov_move rfl) rfl ?_
  refine rl_callv gw_none goes55 rfl (fun w1 hp => exhibitAt_c xs _ i _ hGxs (hsxs.ext hp.ext0)) rfl ?_
  refine rl_val gw_none (ov_assign rfl) rfl ?_
  refine rl_nil ?_
  refine at_then ?_
  refine ct_seq ?_
  refine ct_seq ?_
  refine ct_reg ?_
  refine rl_val gw_none (ov_move rfl) rfl ?_
  refine rl_callv gw_none goes43 rfl (fun w1 hp => iAreExhibits_c xs _ _ hGxs (hsxs.ext hp.ext0)) rfl ?_
  refine rl_val gw_none (ov_not rfl) rfl ?_
  refine rl_val gw_none (ov_move rfl) rfl ?_
  refine rl_split (t := 16) rfl (fun g1 => ?_) (fun g1 => ?_)
  ·
    have g1' := g1
    try simp only [Bool.not_eq_true', Bool.not_eq_false', Bool.not_not, decide_eq_true_eq, decide_eq_false_iff_not, beq_iff_eq, beq_eq_false_iff_ne, bne_iff_ne, bne_eq_false_iff_eq, Bool.and_eq_true, Bool.or_eq_true, Bool.and_eq_false_iff, Bool.or_eq_false_iff, inB] at g1'
    refine rl_skip (gw_not rfl rfl g1) rfl ?_
    refine rl_skip (gw_not rfl rfl g1) rfl ?_
    refine rl_val gw_none (ov_pick_t rfl g1 rfl) rfl ?_
    refine rl_val gw_none (ov_move rfl) rfl ?_
    refine rl_skip (gw_not rfl rfl rfl) rfl ?_
    refine rl_skip (gw_not rfl rfl rfl) rfl ?_
    refine rl_skip (gw_not rfl rfl rfl) rfl ?_
    refine rl_val gw_none (ov_pick_t rfl rfl rfl) rfl ?_
    refine rl_nil ?_
    refine at_then ?_
    refine ct_true rfl rfl ?_
    refine ct_seq ?_
    refine ct_reg ?_
    refine rl_val gw_none (ov_assign rfl) rfl ?_
    refine rl_val gw_none (ov_assign rfl) rfl ?_
    refine rl_nil ?_
    refine at_then ?_
    refine ct_ret ?_
    refine at_then_ret ?_
    refine at_ret2 Try.results39 (ro_tmp rfl) (ro_tmp rfl) (fun w1 hp => ?_)
    first | (rw [mvR_yes (mvB_yes hB (by assumption)), mvB_yes hB (by assumption)]; rw [hmn]; exact RetSl.own 999 hp rfl hsm) | (have hb : mvB xs i to = false := (by first | (exact mvB_no (.inl (kinsB_no (.inl (by simpa using g1))))) | (exact mvB_no (.inl (kinsB_no (.inr (of_decide_eq_true (by assumption)))))) | (exact mvB_no (.inl (kinsB_noG h1))) | (exact mvB_case (by assumption)) | (exact mvB_no (.inr (by assumption)))); rw [mvR_no hb, hb]; first | exact RetSl.nil hp.ext0 | exact RetSl.lit 0 hp rfl rfl (by decide))
  ·
    have g1' := g1
    try simp only [Bool.not_eq_true', Bool.not_eq_false', Bool.not_not, decide_eq_true_eq, decide_eq_false_iff_not, beq_iff_eq, beq_eq_false_iff_ne, bne_iff_ne, bne_eq_false_iff_eq, Bool.and_eq_true, Bool.or_eq_true, Bool.and_eq_false_iff, Bool.or_eq_false_iff, inB] at g1'
    refine rl_val (gw_some rfl rfl g1) (ov_move rfl) rfl ?_
    refine rl_val (gw_some rfl rfl g1) (ov_lss rfl rfl) rfl ?_
    refine rl_val gw_none (ov_pick_f rfl g1 rfl) rfl ?_
    refine rl_val gw_none (ov_move rfl) rfl ?_
    refine rl_split (t := 20) rfl (fun g2 => ?_) (fun g2 => ?_)
    ·
      have g2' := g2
      try simp only [Bool.not_eq_true', Bool.not_eq_false', Bool.not_not, decide_eq_true_eq, decide_eq_false_iff_not, beq_iff_eq, beq_eq_false_iff_ne, bne_iff_ne, bne_eq_false_iff_eq, Bool.and_eq_true, Bool.or_eq_true, Bool.and_eq_false_iff, Bool.or_eq_false_iff, inB] at g2'
      refine rl_skip (gw_not rfl rfl g2) rfl ?_
      refine rl_skip (gw_not rfl rfl g2) rfl ?_
      refine rl_skip (gw_not rfl rfl g2) rfl ?_
      refine rl_val gw_none (ov_pick_t rfl g2 rfl) rfl ?_
      refine rl_nil ?_
      refine at_then ?_
      refine ct_true rfl rfl ?_
      refine ct_seq ?_
      refine ct_reg ?_
      refine rl_val gw_none (ov_assign rfl) rfl ?_
      refine rl_val gw_none (ov_assign rfl) rfl ?_
      refine rl_nil ?_
      refine at_then ?_
      refine ct_ret ?_
      refine at_then_ret ?_
      refine at_ret2 Try.results39 (ro_tmp rfl) (ro_tmp rfl) (fun w1 hp => ?_)
      first | (rw [mvR_yes (mvB_yes hB (by assumption)), mvB_yes hB (by assumption)]; rw [hmn]; exact RetSl.own 999 hp rfl hsm) | (have hb : mvB xs i to = false := (by first | (exact mvB_no (.inl (kinsB_no (.inl (by simpa using g1))))) | (exact mvB_no (.inl (kinsB_no (.inr (of_decide_eq_true (by assumption)))))) | (exact mvB_no (.inl (kinsB_noG h1))) | (exact mvB_case (by assumption)) | (exact mvB_no (.inr (by assumption)))); rw [mvR_no hb, hb]; first | exact RetSl.nil hp.ext0 | exact RetSl.lit 0 hp rfl rfl (by decide))
    ·
      have g2' := g2
      try simp only [Bool.not_eq_true', Bool.not_eq_false', Bool.not_not, decide_eq_true_eq, decide_eq_false_iff_not, beq_iff_eq, beq_eq_false_iff_ne, bne_iff_ne, bne_eq_false_iff_eq, Bool.and_eq_true, Bool.or_eq_true, Bool.and_eq_false_iff, Bool.or_eq_false_iff, inB] at g2'
      refine rl_val (gw_some rfl rfl g2) (ov_move rfl) rfl ?_
      refine rl_callv (gw_some rfl rfl g2) goes69 rfl (fun w1 hp => within_c _ _ _ _) rfl ?_
      refine rl_val (gw_some rfl rfl g2) (ov_not rfl) rfl ?_
      refine rl_val gw_none (ov_pick_f rfl g2 rfl) rfl ?_
      refine rl_nil ?_
      refine at_then ?_
      first | refine ct_dec rfl (fun h1 => ?_) (fun h1 => ?_) | refine ct_ndec rfl (fun h1 => ?_) (fun h1 => ?_) | refine ct_eq rfl (fun h1 => ?_) (fun h1 => ?_) | refine ct_ne rfl (fun h1 => ?_) (fun h1 => ?_) | refine ct_not rfl (fun h1 => ?_) (fun h1 => ?_) | refine ct_cond rfl (fun h1 => ?_) (fun h1 => ?_)
      ·
        refine ct_seq ?_
        refine ct_reg ?_
        refine rl_val gw_none (ov_assign rfl) rfl ?_
        refine rl_val gw_none (ov_assign rfl) rfl ?_
        refine rl_nil ?_
        refine at_then ?_
        refine ct_ret ?_
        refine at_then_ret ?_
        refine at_ret2 Try.results39 (ro_tmp rfl) (ro_tmp rfl) (fun w1 hp => ?_)
        first | (rw [mvR_yes (mvB_yes hB (by assumption)), mvB_yes hB (by assumption)]; rw [hmn]; exact RetSl.own 999 hp rfl hsm) | (have hb : mvB xs i to = false := (by first | (exact mvB_no (.inl (kinsB_no (.inl (by simpa using g1))))) | (exact mvB_no (.inl (kinsB_no (.inr (of_decide_eq_true (by assumption)))))) | (exact mvB_no (.inl (kinsB_noG h1))) | (exact mvB_case (by assumption)) | (exact mvB_no (.inr (by assumption)))); rw [mvR_no hb, hb]; first | exact RetSl.nil hp.ext0 | exact RetSl.lit 0 hp rfl rfl (by decide))
      ·
        have hok : exhsB xs = true := by simpa using g1
        have h0 : ¬ findP (byXid i) xs < 0 := of_decide_eq_false g2
        have h10 := exhsB_len hok
        have hol : (ageL xs).length = xs.length := ordG_len xs
        have hB : kinsB xs i = true := kinsB_yes hok h0
        obtain ⟨hlt, z, hz, hzi⟩ := findP_ge (show 0 ≤ findP (byXid i) xs by omega)
        obtain ⟨b, o, rfl, hel⟩ := hsxs.elem encExhibit_len (by omega) hlt
        have hcz := hel _ z hz
        have hze := atE_eq hz
        have hx10 := exhsB_len hok
        have hgz : GExhibit z := hGxs _ (List.mem_of_getElem? hz)
        have hml : mvL xs i to = xs.set (findP (byXid i) xs).toNat (inCase z to) := by unfold mvL; rw [hze]
        have hmn := mvL_len xs i to
        have hGm : ∀ y ∈ mvL xs i to, GExhibit y := fun y hy => by
          rw [hml] at hy
          rcases List.mem_or_eq_of_mem_set hy with hy | rfl
          · exact hGxs _ hy
          · unfold GExhibit inCase at *; dsimp only; exact ⟨hgz.1, hgz.2.1, hgz.2.2.1, hgz.2.2.2.1, hgz.2.2.2.2.1, hgz.2.2.2.2.2.1, zto⟩
        refine ct_skip ?_
        refine at_then ?_
        refine ct_seq ?_
        refine ct_reg ?_
        refine rl_bslice Try.underlying27 ze46 sz46 rfl rfl rfl rfl rfl rfl (fun N1 => ?_)
        refine rl_val gw_none (ov_move rfl) rfl ?_
        refine rl_appT (flat encExhibit) ((flat_append _)) [] (bo := some N1) (acc := []) Try.underlying27 ze46 sz46 rfl rfl by46 rfl rfl rfl (Sl.lit rfl (by first | decide | (unfold maxLen; simp; done) | (unfold maxLen; simp; omega))) (xs) rfl (fun w1 hp => hsxs.ext hp.ext0) (flat_one encExhibit_one _) (by unfold maxLen; first | omega | (simp; omega)) (by first | omega | (simp; omega)) rfl (fun boq1 capq1 padq1 hsq1 => ?_)
        obtain ⟨bq1, rfl⟩ := slSomeG hsq1 (by first | omega | (simp; omega))
        have hsm : Sl 7 (some bq1) xs.length capq1 (flat encExhibit (mvL xs i to)) padq1 := by
          have h9 := slSameG encExhibit_len (xs := xs) hsq1 hmn
          rwa [hmn] at h9
        have hnl : (([] : List Exhibit) ++ xs).length = xs.length := rfl
        refine rl_val gw_none (ov_assign rfl) rfl ?_
        refine rl_nil ?_
        refine at_then ?_
        refine ct_seq ?_
        refine ct_reg ?_
        refine rl_val gw_none (ov_move rfl) rfl ?_
        refine rl_val gw_none (ov_move rfl) rfl ?_
        refine rl_val gw_none (ov_move rfl) rfl ?_
        refine rl_val gw_none (ov_ix Try.underlying27 sz46 rfl rfl ((findP (byXid i) xs).toNat) (by omega) (by omega)) rfl ?_
        refine rl_val gw_none (ov_field fo46_6 rfl) rfl ?_
        refine rl_store [] sz3 rfl rfl rfl rfl rfl (by rw [List.length_append, flat_length encExhibit_len]; simp; omega) ?_
        refine rl_mem (fun _ hq => hq.cong (congrArg (fun x => (_, _, x) :: _) ((show _ = flat encExhibit (mvL xs i to) ++ _ by rw [hml]; exact flatPutF (x' := inCase z to) encExhibit_len _ hz (by decide) rfl)))) ?_
        refine rl_nil ?_
        refine at_then ?_
        refine ct_seq ?_
        refine ct_seq ?_
        refine ct_reg ?_
        refine rl_val gw_none (ov_move rfl) rfl ?_
        refine rl_callv gw_none goes43 rfl (fun w1 hp => iAreExhibits_c (mvL xs i to) _ _ hGm (by rw [hmn]; exact hp.slsr 0 rfl hsm)) rfl ?_
        refine rl_val gw_none (ov_not rfl) rfl ?_
        refine rl_nil ?_
        refine at_then ?_
        first | refine ct_dec rfl (fun h2 => ?_) (fun h2 => ?_) | refine ct_ndec rfl (fun h2 => ?_) (fun h2 => ?_) | refine ct_eq rfl (fun h2 => ?_) (fun h2 => ?_) | refine ct_ne rfl (fun h2 => ?_) (fun h2 => ?_) | refine ct_not rfl (fun h2 => ?_) (fun h2 => ?_) | refine ct_cond rfl (fun h2 => ?_) (fun h2 => ?_)
        ·
          refine ct_seq ?_
          refine ct_reg ?_
          refine rl_val gw_none (ov_assign rfl) rfl ?_
          refine rl_val gw_none (ov_assign rfl) rfl ?_
          refine rl_nil ?_
          refine at_then ?_
          refine ct_ret ?_
          refine at_then_ret ?_
          refine at_ret2 Try.results39 (ro_tmp rfl) (ro_tmp rfl) (fun w1 hp => ?_)
          first | (rw [mvR_yes (mvB_yes hB (by assumption)), mvB_yes hB (by assumption)]; rw [hmn]; exact RetSl.own 0 hp rfl hsm) | (have hb : mvB xs i to = false := (by first | (exact mvB_no (.inl (kinsB_no (.inl (by simpa using g1))))) | (exact mvB_no (.inl (kinsB_no (.inr (of_decide_eq_true (by assumption)))))) | (exact mvB_no (.inl (kinsB_noG h1))) | (exact mvB_case (by assumption)) | (exact mvB_no (.inr (by assumption)))); rw [mvR_no hb, hb]; first | exact RetSl.nil hp.ext0 | exact RetSl.lit 0 hp rfl rfl (by decide))
        ·
          refine ct_skip ?_
          refine at_then ?_
          refine ct_seq ?_
          refine ct_reg ?_
          refine rl_val gw_none (ov_move rfl) rfl ?_
          refine rl_val gw_none (ov_assign rfl) rfl ?_
          refine rl_val gw_none (ov_assign rfl) rfl ?_
          refine rl_nil ?_
          refine at_then ?_
          refine ct_ret ?_
          refine at_ret2 Try.results39 (ro_tmp rfl) (ro_tmp rfl) (fun w1 hp => ?_)
          first | (rw [mvR_yes (mvB_yes hB (by assumption)), mvB_yes hB (by assumption)]; rw [hmn]; exact RetSl.own 0 hp rfl hsm) | (have hb : mvB xs i to = false := (by first | (exact mvB_no (.inl (kinsB_no (.inl (by simpa using g1))))) | (exact mvB_no (.inl (kinsB_no (.inr (of_decide_eq_true (by assumption)))))) | (exact mvB_no (.inl (kinsB_noG h1))) | (exact mvB_case (by assumption)) | (exact mvB_no (.inr (by assumption)))); rw [mvR_no hb, hb]; first | exact RetSl.nil hp.ext0 | exact RetSl.lit 0 hp rfl rfl (by decide))

theorem sMoveExhibit_c (xs : List Exhibit) (i : Int) (to : Int) (vxs : Value) (w : World) (hGxs : ∀ y ∈ xs, GExhibit y) (hsxs : SR w 7 vxs xs.length (flat encExhibit xs)) (zi : In64 i) (zto : In64 to) : Calls Try.prog 40 ([vxs, .int .i64 i, .int .i64 to]).toArray w (fun e w' => RetSl 46 7 (flat encExhibit (mvR xs i to)) ((mvR xs i to).length) (fun s => .tuple #[s, .bool (mvB xs i to)]) w e w') := by
  obtain ⟨axs, capxs, rfl, hcapxs, hmaxxs⟩ := hsxs.slice
  have hlenxs := hsxs.len_le
  refine calls_ct Try.func40 Try.ntmps40 rfl rfl ?_
  refine ct_seq ?_
  refine ct_reg ?_
  refine rl_val gw_none (ov_assign rfl) rfl ?_
  refine rl_val gw_none (ov_assign rfl) rfl ?_
  refine rl_nil ?_
  refine at_then ?_
  refine ct_seq ?_
  refine ct_reg ?_
  refine rl_val gw_none (ov_move rfl) rfl ?_
  refine rl_val gw_none (ov_move rfl) rfl ?_
  refine rl_callv gw_none goes51 rfl (fun w1 hp => l22Find_c xs _ i _ hGxs (hsxs.ext hp.ext0)) rfl ?_
  refine rl_val gw_none (ov_assign rfl) rfl ?_
  refine rl_nil ?_
  refine at_then ?_
  refine ct_seq ?_
  refine ct_seq ?_
  refine ct_reg ?_
  refine rl_val gw_none (ov_move rfl) rfl ?_
  refine rl_val gw_none (ov_lss rfl rfl) rfl ?_
  refine rl_nil ?_
  refine at_then ?_
  first | refine ct_dec rfl (fun h1 => ?_) (fun h1 => ?_) | refine ct_ndec rfl (fun h1 => ?_) (fun h1 => ?_) | refine ct_eq rfl (fun h1 => ?_) (fun h1 => ?_) | refine ct_ne rfl (fun h1 => ?_) (fun h1 => ?_) | refine ct_not rfl (fun h1 => ?_) (fun h1 => ?_) | refine ct_cond rfl (fun h1 => ?_) (fun h1 => ?_)
  ·
    refine ct_seq ?_
    refine ct_reg ?_
    refine rl_bslice Try.underlying27 ze46 sz46 rfl rfl rfl rfl rfl rfl (fun N1 => ?_)
    refine rl_val gw_none (ov_assign rfl) rfl ?_
    refine rl_val gw_none (ov_assign rfl) rfl ?_
    refine rl_nil ?_
    refine at_then ?_
    refine ct_ret ?_
    refine at_then_ret ?_
    refine at_ret2 Try.results40 (ro_tmp rfl) (ro_tmp rfl) (fun w1 hp => ?_)
    first | (rw [mvR_yes (mvB_yes hB (by assumption)), mvB_yes hB (by assumption)]; rw [hmn]; exact RetSl.own 999 hp rfl hsm) | (have hb : mvB xs i to = false := (by first | (exact mvB_no (.inl (kinsB_no (.inl (by simpa using g1))))) | (exact mvB_no (.inl (kinsB_no (.inr (of_decide_eq_true (by assumption)))))) | (exact mvB_no (.inl (kinsB_noG h1))) | (exact mvB_case (by assumption)) | (exact mvB_no (.inr (by assumption)))); rw [mvR_no hb, hb]; first | exact RetSl.nil hp.ext0 | exact RetSl.lit 0 hp rfl rfl (by decide))
  ·
    obtain ⟨hok, h0, hfe⟩ := findG_ge h1
    have h10 := exhsB_len hok
    have hol : (ageL xs).length = xs.length := ordG_len xs
    have hB : kinsB xs i = true := kinsB_yes hok h0
    obtain ⟨hlt, z, hz, hzi⟩ := findP_ge (show 0 ≤ findP (byXid i) xs by omega)
    obtain ⟨b, o, rfl, hel⟩ := hsxs.elem encExhibit_len (by omega) hlt
    have hcz := hel _ z hz
    have hze := atE_eq hz
    have hx10 := exhsB_len hok
    have hgz : GExhibit z := hGxs _ (List.mem_of_getElem? hz)
    have hml : mvL xs i to = xs.set (findP (byXid i) xs).toNat (inCase z to) := by unfold mvL; rw [hze]
    have hmn := mvL_len xs i to
    have hGm : ∀ y ∈ mvL xs i to, GExhibit y := fun y hy => by
      rw [hml] at hy
      rcases List.mem_or_eq_of_mem_set hy with hy | rfl
      · exact hGxs _ hy
      · unfold GExhibit inCase at *; dsimp only; exact ⟨hgz.1, hgz.2.1, hgz.2.2.1, hgz.2.2.2.1, hgz.2.2.2.2.1, hgz.2.2.2.2.2.1, zto⟩
    refine ct_skip ?_
    refine at_then ?_
    refine ct_seq ?_
    refine ct_reg ?_
    refine rl_bslice Try.underlying27 ze46 sz46 rfl rfl rfl rfl rfl rfl (fun N2 => ?_)
    refine rl_val gw_none (ov_move rfl) rfl ?_
    refine rl_appT (flat encExhibit) ((flat_append _)) [] (bo := some N2) (acc := []) Try.underlying27 ze46 sz46 rfl rfl by46 rfl rfl rfl (Sl.lit rfl (by first | decide | (unfold maxLen; simp; done) | (unfold maxLen; simp; omega))) (xs) rfl (fun w1 hp => hsxs.ext hp.ext0) (flat_one encExhibit_one _) (by unfold maxLen; first | omega | (simp; omega)) (by first | omega | (simp; omega)) rfl (fun boq1 capq1 padq1 hsq1 => ?_)
    obtain ⟨bq1, rfl⟩ := slSomeG hsq1 (by first | omega | (simp; omega))
    have hsm : Sl 7 (some bq1) xs.length capq1 (flat encExhibit (mvL xs i to)) padq1 := by
      have h9 := slSameG encExhibit_len (xs := xs) hsq1 hmn
      rwa [hmn] at h9
    have hnl : (([] : List Exhibit) ++ xs).length = xs.length := rfl
    refine rl_val gw_none (ov_assign rfl) rfl ?_
    refine rl_nil ?_
    refine at_then ?_
    refine ct_seq ?_
    refine ct_reg ?_
    refine rl_val gw_none (ov_move rfl) rfl ?_
    refine rl_val gw_none (ov_move rfl) rfl ?_
    refine rl_val gw_none (ov_ix Try.underlying27 sz46 rfl rfl ((findP (byXid i) xs).toNat) (by omega) (by omega)) rfl ?_
    refine rl_val gw_none (ov_loada 0 ag46 rfl rfl (vs := encExhibit z) rfl (flatCells encExhibit_len hz _)) rfl ?_
    refine rl_alloc ze46 rfl (fun N3 => ?_)
    refine rl_store [] sz46 rfl rfl rfl rfl rfl (Nat.le_of_ble_eq_true rfl) ?_
    refine rl_mem (fun _ hq => hq.cong (congrArg (fun x => (_, _, x) :: _) ((show _ = encExhibit z from rfl)))) ?_
    refine rl_nil ?_
    refine at_then ?_
    refine ct_seq ?_
    refine ct_reg ?_
    refine rl_val gw_none (ov_move rfl) rfl ?_
    refine rl_val gw_none (ov_field fo46_6 rfl) rfl ?_
    refine rl_store [] sz3 rfl rfl rfl rfl rfl (Nat.le_of_ble_eq_true rfl) ?_
    refine rl_mem (fun _ hq => hq.cong (congrArg (fun x => (_, _, x) :: _) ((show _ = encExhibit (inCase z to) from rfl)))) ?_
    refine rl_nil ?_
    refine at_then ?_
    refine ct_seq ?_
    refine ct_reg ?_
    refine rl_val gw_none (ov_move rfl) rfl ?_
    refine rl_val gw_none (ov_move rfl) rfl ?_
    first | refine rl_val gw_none (ov_loadall 0 ag46 rfl rfl rfl) rfl ?_ | refine rl_val gw_none (ov_loadp 0 ag46 rfl rfl (vs := [_, _, _, _, _, _, _]) rfl rfl) rfl ?_ | refine rl_val gw_none (ov_loada 0 ag46 rfl rfl rfl (by assumption)) rfl ?_
    refine rl_val gw_none (ov_ix Try.underlying27 sz46 rfl rfl ((findP (byXid i) xs).toNat) (by omega) (by omega)) rfl ?_
    refine rl_store [_] sz46 rfl rfl rfl rfl rfl (by rw [List.length_append, flat_length encExhibit_len]; simp; omega) ?_
    refine rl_mem (fun _ hq => hq.cong (congrArg (fun x => _ :: (_, _, x) :: _) ((show _ = flat encExhibit (mvL xs i to) ++ _ by rw [hml]; exact flatPutG encExhibit_len (x := inCase z to) _ (by omega))))) ?_
    refine rl_nil ?_
    refine at_then ?_
    refine ct_seq ?_
    refine ct_seq ?_
    refine ct_reg ?_
    refine rl_val gw_none (ov_move rfl) rfl ?_
    refine rl_callv gw_none goes60 rfl (fun w1 hp => l22Good_c (mvL xs i to) _ _ hGm (by rw [hmn]; exact hp.slsr 1 rfl hsm)) rfl ?_
    refine rl_val gw_none (ov_not rfl) rfl ?_
    refine rl_nil ?_
    refine at_then ?_
    first | refine ct_dec rfl (fun h2 => ?_) (fun h2 => ?_) | refine ct_ndec rfl (fun h2 => ?_) (fun h2 => ?_) | refine ct_eq rfl (fun h2 => ?_) (fun h2 => ?_) | refine ct_ne rfl (fun h2 => ?_) (fun h2 => ?_) | refine ct_not rfl (fun h2 => ?_) (fun h2 => ?_) | refine ct_cond rfl (fun h2 => ?_) (fun h2 => ?_)
    ·
      refine ct_seq ?_
      refine ct_reg ?_
      refine rl_bslice Try.underlying27 ze46 sz46 rfl rfl rfl rfl rfl rfl (fun N4 => ?_)
      refine rl_val gw_none (ov_assign rfl) rfl ?_
      refine rl_val gw_none (ov_assign rfl) rfl ?_
      refine rl_nil ?_
      refine at_then ?_
      refine ct_ret ?_
      refine at_then_ret ?_
      refine at_ret2 Try.results40 (ro_tmp rfl) (ro_tmp rfl) (fun w1 hp => ?_)
      first | (rw [mvR_yes (mvB_yes hB (by assumption)), mvB_yes hB (by assumption)]; rw [hmn]; exact RetSl.own 2 hp rfl hsm) | (have hb : mvB xs i to = false := (by first | (exact mvB_no (.inl (kinsB_no (.inl (by simpa using g1))))) | (exact mvB_no (.inl (kinsB_no (.inr (of_decide_eq_true (by assumption)))))) | (exact mvB_no (.inl (kinsB_noG h1))) | (exact mvB_case (by assumption)) | (exact mvB_no (.inr (by assumption)))); rw [mvR_no hb, hb]; first | exact RetSl.nil hp.ext0 | exact RetSl.lit 0 hp rfl rfl (by decide))
    ·
      refine ct_skip ?_
      refine at_then ?_
      refine ct_seq ?_
      refine ct_reg ?_
      refine rl_val gw_none (ov_move rfl) rfl ?_
      refine rl_val gw_none (ov_assign rfl) rfl ?_
      refine rl_val gw_none (ov_assign rfl) rfl ?_
      refine rl_nil ?_
      refine at_then ?_
      refine ct_ret ?_
      refine at_ret2 Try.results40 (ro_tmp rfl) (ro_tmp rfl) (fun w1 hp => ?_)
      first | (rw [mvR_yes (mvB_yes hB (by assumption)), mvB_yes hB (by assumption)]; rw [hmn]; exact RetSl.own 1 hp rfl hsm) | (have hb : mvB xs i to = false := (by first | (exact mvB_no (.inl (kinsB_no (.inl (by simpa using g1))))) | (exact mvB_no (.inl (kinsB_no (.inr (of_decide_eq_true (by assumption)))))) | (exact mvB_no (.inl (kinsB_noG h1))) | (exact mvB_case (by assumption)) | (exact mvB_no (.inr (by assumption)))); rw [mvR_no hb, hb]; first | exact RetSl.nil hp.ext0 | exact RetSl.lit 0 hp rfl rfl (by decide))
end Go.Proofs.Ytfelindekikaeaa
