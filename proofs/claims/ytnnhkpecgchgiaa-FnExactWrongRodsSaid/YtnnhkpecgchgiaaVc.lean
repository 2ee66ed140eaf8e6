import Derived.Test.YtnnhkpecgchgiaaVb
import Derived.Test.YtnnhkpecgchgiaaUb
import Derived.KernelRfl
set_option linter.unusedVariables false
set_option linter.unusedSimpArgs false
namespace Go.Proofs.Ytnnhkpecgchgiaa
open Go Go.RowKit K
theorem iWrongRods_c (u : Int) (l : Int) (xs : List IntA2) (cl : List Int) (im : List Int) (be : Int) (gu : Int) (vxs : Value) (vcl : Value) (vim : Value) (w : World) (zu : In64 u) (zl : In64 l) (hGxs : ∀ y ∈ xs, GIntA2 y) (hsxs : SR w 2 vxs xs.length (flat encIntA2 xs)) (hscl : SR w 1 vcl cl.length (ints cl)) (hsim : SR w 1 vim im.length (ints im)) (zbe : In64 be) (zgu : In64 gu) : Calls Try.prog 27 ([.agg (List.toArray (α := Value) [.int .i64 u, .int .i64 l, vxs, vcl, vim, .int .i64 be, .int .i64 gu])]).toArray w (fun e w' => RetSl 3 1 (ints (wrgR (mindB u l xs cl im be gu) im xs)) ((wrgR (mindB u l xs cl im be gu) im xs).length) (fun s => .tuple #[s, .bool (mindB u l xs cl im be gu)]) w e w') := by
  obtain ⟨axs, capxs, rfl, hcapxs, hmaxxs⟩ := hsxs.slice
  have hlenxs := hsxs.len_le
  obtain ⟨acl, capcl, rfl, hcapcl, hmaxcl⟩ := hscl.slice
  have hlencl := hscl.len_le
  obtain ⟨aim, capim, rfl, hcapim, hmaxim⟩ := hsim.slice
  have hlenim := hsim.len_le
  refine calls_ct Try.func27 Try.ntmps27 rfl rfl ?_
  refine ct_seq ?_
  refine ct_reg ?_
  refine rl_box rfl rfl (fun N1 => ?_)
  refine rl_val gw_none (ov_assign rfl) rfl ?_
  refine rl_val gw_none (ov_assign rfl) rfl ?_
  refine rl_nil ?_
  refine at_then ?_
  refine ct_seq ?_
  refine ct_seq ?_
  refine ct_reg ?_
  first | refine rl_val gw_none (ov_loadall 0 ag29 rfl rfl rfl) rfl ?_ | refine rl_val gw_none (ov_loadp 0 ag29 rfl rfl (vs := [_, _, _, _, _, _, _]) rfl rfl) rfl ?_ | refine rl_val gw_none (ov_loada 0 ag29 rfl rfl rfl (by assumption)) rfl ?_
  refine rl_callv gw_none goes86 rfl (fun w1 hp => iIsMind_c u l xs cl im be gu _ _ _ _ zu zl hGxs (hsxs.ext hp.ext0) (hscl.ext hp.ext0) (hsim.ext hp.ext0) zbe zgu) rfl ?_
  refine rl_val gw_none (ov_not rfl) rfl ?_
  refine rl_nil ?_
  refine at_then ?_
  first | refine ct_dec rfl (fun h1 => ?_) (fun h1 => ?_) | refine ct_ndec rfl (fun h1 => ?_) (fun h1 => ?_) | refine ct_eq rfl (fun h1 => ?_) (fun h1 => ?_) | refine ct_ne rfl (fun h1 => ?_) (fun h1 => ?_) | refine ct_not rfl (fun h1 => ?_) (fun h1 => ?_) | refine ct_cond rfl (fun h1 => ?_) (fun h1 => ?_)
  ·
    refine ct_seq ?_
    refine ct_reg ?_
    refine rl_val gw_none (ov_assign rfl) rfl ?_
    refine rl_val gw_none (ov_assign rfl) rfl ?_
    refine rl_nil ?_
    refine at_then ?_
    refine ct_ret ?_
    refine at_then_ret ?_
    refine at_ret2 Try.results27 (ro_tmp rfl) (ro_tmp rfl) (fun w1 hp => ?_)
    first | (rw [wrgR_no (show mindB u l xs cl im be gu = false by simpa using h1), show mindB u l xs cl im be gu = false by simpa using h1]; first | exact RetSl.nil hp.ext0 | exact RetSl.lit 999 hp rfl rfl (by decide) | exact RetSl.lit 0 hp rfl rfl (by decide)) | (rw [wrgR_yes hok, hok]; exact RetSl.own 999 hp rfl hsl)
  ·
    have hok : mindB u l xs cl im be gu = true := by simpa using h1
    have hmh := mindB_h hok
    have hf := goodB_f hmh.1
    have hnb := numF_all hf
    have hgd := hmh.1
    have h8 := (frameB_ul hf).2.2.2
    have hl1 := (frameB_ul hf).2.2.1
    have hil : im.length = xs.length := by omega
    refine ct_skip ?_
    refine at_then ?_
    refine ct_seq ?_
    refine ct_reg ?_
    refine rl_val gw_none (ov_assign rfl) rfl ?_
    refine rl_nil ?_
    refine at_then ?_
    refine ct_seq ?_
    refine ct_seq ?_
    refine ct_dre 8 [0, 1, 2, 3, 4, 7, 5, 6] [6] (by kernel_rfl) (by kernel_rfl) ?_
    refine qe_val rfl gw_none (ov_field fo29_0 rfl) rfl ?_
    first | refine qe_val rfl gw_none (ov_loadall 0 ag26 rfl rfl rfl) rfl ?_ | refine qe_val rfl gw_none (ov_loadp 0 ag26 rfl rfl (vs := [_, _, _]) rfl rfl) rfl ?_ | refine qe_val rfl gw_none (ov_loada 0 ag26 rfl rfl rfl (by assumption)) rfl ?_
    refine qe_val rfl gw_none (ov_field fo29_0 rfl) rfl ?_
    first | refine qe_val rfl gw_none (ov_loadall 0 ag26 rfl rfl rfl) rfl ?_ | refine qe_val rfl gw_none (ov_loadp 0 ag26 rfl rfl (vs := [_, _, _]) rfl rfl) rfl ?_ | refine qe_val rfl gw_none (ov_loada 0 ag26 rfl rfl rfl (by assumption)) rfl ?_
    refine qe_callv rfl gw_none goes88 rfl (fun w1 hp => number_c u l xs _ _ zu zl hGxs (hsxs.ext hp.ext0) hf) rfl ?_
    refine qe_val rfl gw_none (ov_move rfl) rfl ?_
    refine qe_callsl (ι := Nat × List Value) (fun i bo => sv bo xs.length i.1) (fun i => ints (digL (numF xs) xs.length) ++ i.2) (fun i bo => Sl 1 bo xs.length i.1 (ints (digL (numF xs) xs.length)) i.2) rfl goes87 rfl (fun w1 hp => digitsFor_c u l xs _ (numF xs) _ zu zl hGxs (hsxs.ext hp.ext0) h8 (by omega)) rfl (fun idg bodg hsdg => ?_)
    obtain ⟨bdg, rfl⟩ := slSomeG hsdg (by omega)
    refine qe_val rfl gw_none (ov_len Try.underlying27 rfl) rfl ?_
    refine qe_nil ?_
    refine rl_nil ?_
    refine at_then ?_
    refine ct_block ?_
    refine ct_loopR (ι := Nat × Option Nat × Nat × List Value) (fun p0 => [(4, sv p0.2.1 (wrgP im xs p0.1).length p0.2.2.1), (17, .int .i64 p0.1)]) [(1, _), (2, _), (3, _), (15, _), (16, _)] (fun p0 => [(p0.2.1, 3, ints (wrgP im xs p0.1) ++ p0.2.2.2), _, _]) (fun p0 => p0.1 ≤ im.length ∧ Sl 1 p0.2.1 (wrgP im xs p0.1).length p0.2.2.1 (ints (wrgP im xs p0.1)) p0.2.2.2) (fun p0 => im.length - p0.1) ((0, none, 0, [])) (Sub.cons rfl (Sub.cons rfl (Sub.cons rfl (Sub.cons rfl (Sub.cons rfl Sub.nil))))) (fun _ hp => ((Hp.sub (Hp.pull (Hp.pull hp 1 rfl) 1 rfl) (List.sublist_append_left [_, _] _))).nil 3) (by (repeat' (first | exact Sub.nil | refine Sub.cons ?_ ?_)); all_goals (first | rfl | exact lkInt rfl (by omega))) ⟨Nat.zero_le _, Sl.nil0 _⟩ (fun p0 hp0 => ?_)
    obtain ⟨k, bo, cap, pad⟩ := p0
    obtain ⟨hk, hsl⟩ := hp0
    dsimp only at hk hsl
    try dsimp only
    have hwl := wrgP_len im xs k
    refine ct_seq ?_
    refine ct_reg ?_
    refine rl_val gw_none (ov_lss rfl rfl) rfl ?_
    refine rl_nil ?_
    refine at_then ?_
    refine ct_seq ?_
    first | refine ct_dec rfl (fun h2 => ?_) (fun h2 => ?_) | refine ct_ndec rfl (fun h2 => ?_) (fun h2 => ?_) | refine ct_eq rfl (fun h2 => ?_) (fun h2 => ?_) | refine ct_ne rfl (fun h2 => ?_) (fun h2 => ?_) | refine ct_not rfl (fun h2 => ?_) (fun h2 => ?_) | refine ct_cond rfl (fun h2 => ?_) (fun h2 => ?_)
    ·
      have hk2 : k < im.length := by omega
      obtain ⟨bi, oi, rfl, hei⟩ := hsim.int hk2
      have hxi := getLt hk2
      obtain ⟨c, hxc⟩ : ∃ c, cl[k]? = some c := ⟨_, getLt (show k < cl.length by omega)⟩
      have hmb := mindB_at hok hxi hxc
      generalize im[k] = d at *
      have hci := hei k d hxi
      have hdx := digL_num hgd (show k < xs.length by omega)
      refine ct_skip ?_
      refine at_then ?_
      refine ct_seq ?_
      refine ct_block ?_
      refine ct_seq ?_
      refine ct_reg ?_
      refine rl_val gw_none (ov_move rfl) rfl ?_
      first | refine rl_val gw_none (ov_ix Try.underlying27 sz3 rfl rfl _ rfl (by omega)) rfl ?_ | refine rl_val gw_none (ov_ix Try.underlying27 sz3 rfl rfl (k) (by omega) (by omega)) rfl ?_
      refine rl_val gw_none (ov_load 1 sc3 rfl rfl (intsAtP hdx _)) rfl ?_
      refine rl_val gw_none (ov_assign rfl) rfl ?_
      refine rl_val gw_none (ov_assign rfl) rfl ?_
      refine rl_nil ?_
      refine at_then ?_
      refine ct_seq ?_
      refine ct_reg ?_
      refine rl_val gw_none (ov_field fo29_2 rfl) rfl ?_
      first | refine rl_val gw_none (ov_load 2 sc27 rfl rfl rfl) rfl ?_ | refine rl_val gw_none (ov_load 2 sc27 rfl rfl (by assumption)) rfl ?_
      refine rl_val gw_none (ov_move rfl) rfl ?_
      first | refine rl_val gw_none (ov_ix Try.underlying27 sz3 rfl rfl _ rfl (by omega)) rfl ?_ | refine rl_val gw_none (ov_ix Try.underlying27 sz3 rfl rfl (k) (by omega) (by omega)) rfl ?_
      first | refine rl_val gw_none (ov_load 0 sc3 rfl rfl rfl) rfl ?_ | refine rl_val gw_none (ov_load 1 sc3 rfl rfl rfl) rfl ?_ | refine rl_val gw_none (ov_load 2 sc3 rfl rfl rfl) rfl ?_ | refine rl_val gw_none (ov_load 3 sc3 rfl rfl rfl) rfl ?_ | refine rl_val gw_none (ov_loadw sc3 rfl (by assumption)) rfl ?_ | refine rl_val gw_none (ov_load 0 sc3 rfl rfl (by assumption)) rfl ?_ | refine rl_val gw_none (ov_load 1 sc3 rfl rfl (by assumption)) rfl ?_ | refine rl_val gw_none (ov_load 2 sc3 rfl rfl (by assumption)) rfl ?_ | refine rl_val gw_none (ov_load 3 sc3 rfl rfl (by assumption)) rfl ?_
      refine rl_val gw_none (ov_geq rfl rfl) rfl ?_
      refine rl_val gw_none (ov_move rfl) rfl ?_
      refine rl_split (t := 28) rfl (fun g1 => ?_) (fun g1 => ?_)
      ·
        have g1' := g1
        try simp only [Bool.not_eq_true', Bool.not_eq_false', Bool.not_not, decide_eq_true_eq, decide_eq_false_iff_not, beq_iff_eq, beq_eq_false_iff_ne, bne_iff_ne, bne_eq_false_iff_eq, Bool.and_eq_true, Bool.or_eq_true, Bool.and_eq_false_iff, Bool.or_eq_false_iff, inB] at g1'
        refine rl_val (gw_some rfl rfl g1) (ov_field fo29_2 rfl) rfl ?_
        first | refine rl_val (gw_some rfl rfl g1) (ov_load 2 sc27 rfl rfl rfl) rfl ?_ | refine rl_val (gw_some rfl rfl g1) (ov_load 2 sc27 rfl rfl (by assumption)) rfl ?_
        refine rl_val (gw_some rfl rfl g1) (ov_move rfl) rfl ?_
        first | refine rl_val (gw_some rfl rfl g1) (ov_ix Try.underlying27 sz3 rfl rfl _ rfl (by omega)) rfl ?_ | refine rl_val (gw_some rfl rfl g1) (ov_ix Try.underlying27 sz3 rfl rfl (k) (by omega) (by omega)) rfl ?_
        first | refine rl_val (gw_some rfl rfl g1) (ov_load 0 sc3 rfl rfl rfl) rfl ?_ | refine rl_val (gw_some rfl rfl g1) (ov_load 1 sc3 rfl rfl rfl) rfl ?_ | refine rl_val (gw_some rfl rfl g1) (ov_load 2 sc3 rfl rfl rfl) rfl ?_ | refine rl_val (gw_some rfl rfl g1) (ov_load 3 sc3 rfl rfl rfl) rfl ?_ | refine rl_val (gw_some rfl rfl g1) (ov_loadw sc3 rfl (by assumption)) rfl ?_ | refine rl_val (gw_some rfl rfl g1) (ov_load 0 sc3 rfl rfl (by assumption)) rfl ?_ | refine rl_val (gw_some rfl rfl g1) (ov_load 1 sc3 rfl rfl (by assumption)) rfl ?_ | refine rl_val (gw_some rfl rfl g1) (ov_load 2 sc3 rfl rfl (by assumption)) rfl ?_ | refine rl_val (gw_some rfl rfl g1) (ov_load 3 sc3 rfl rfl (by assumption)) rfl ?_
        refine rl_val (gw_some rfl rfl g1) (ov_move rfl) rfl ?_
        refine rl_val (gw_some rfl rfl g1) (ov_neq rfl rfl) rfl ?_
        refine rl_val gw_none (ov_pick_t rfl g1 rfl) rfl ?_
        refine rl_nil ?_
        refine at_then ?_
        first | refine ct_dec rfl (fun h3 => ?_) (fun h3 => ?_) | refine ct_ndec rfl (fun h3 => ?_) (fun h3 => ?_) | refine ct_eq rfl (fun h3 => ?_) (fun h3 => ?_) | refine ct_ne rfl (fun h3 => ?_) (fun h3 => ?_) | refine ct_not rfl (fun h3 => ?_) (fun h3 => ?_) | refine ct_cond rfl (fun h3 => ?_) (fun h3 => ?_)
        ·
          refine ct_reg ?_
          refine rl_val gw_none (ov_move rfl) rfl ?_
          refine rl_val gw_none (ov_move rfl) rfl ?_
          refine rl_bslice Try.underlying27 ze3 sz3 rfl rfl rfl rfl rfl rfl (fun N2 => ?_)
          refine rl_appT (ints) (ints_append) [_] (acc := wrgP im xs k) Try.underlying27 ze3 sz3 rfl rfl by3 rfl rfl rfl hsl ([(k : Int)]) rfl (fun w1 hp => hp.sr1 0 rfl rfl (by decide)) (ints_one _) (by unfold maxLen; omega) (by omega) rfl (fun boq1 capq1 padq1 hsq1 => ?_)
          refine rl_val gw_none (ov_assign rfl) rfl ?_
          refine rl_nil ?_
          refine at_block ?_
          refine at_then ?_
          refine ct_reg ?_
          refine rl_val gw_none (ov_add rfl rfl (by omega)) rfl ?_
          refine rl_val gw_none (ov_move rfl) rfl ?_
          refine rl_nil ?_
          have hts := wrgP_yes (xs := xs) hxi (by first | omega | (simp at g1; omega)) (by first | omega | (simp at *; omega))
          exact at_backR (k + 1, boq1, capq1, padq1) ⟨hk2, by dsimp only; rw [hts]; exact hsq1⟩ (by dsimp only; omega) (by dsimp only; rw [hts]; (repeat' (first | exact Sub.nil | refine Sub.cons ?_ ?_)); all_goals (first | rfl | exact lkInt rfl (by omega))) (Sub.cons rfl (Sub.cons rfl (Sub.cons rfl (Sub.cons rfl (Sub.cons rfl Sub.nil))))) (fun _ hp => ((Hp.sub (Hp.pull (Hp.pull (Hp.pull hp 3 rfl) 3 rfl) 3 rfl) (List.sublist_append_left [_, _, _] _))).cong (by dsimp only; rw [hts]; try rfl))
        ·
          refine ct_skip ?_
          refine at_block ?_
          refine at_then ?_
          refine ct_reg ?_
          refine rl_val gw_none (ov_add rfl rfl (by omega)) rfl ?_
          refine rl_val gw_none (ov_move rfl) rfl ?_
          refine rl_nil ?_
          have hts := wrgP_no (xs := xs) hxi (by first | omega | (simp at *; omega))
          exact at_backR (k + 1, bo, cap, pad) ⟨hk2, by dsimp only; rw [hts]; exact hsl⟩ (by dsimp only; omega) (by dsimp only; rw [hts]; (repeat' (first | exact Sub.nil | refine Sub.cons ?_ ?_)); all_goals (first | rfl | exact lkInt rfl (by omega))) (Sub.cons rfl (Sub.cons rfl (Sub.cons rfl (Sub.cons rfl (Sub.cons rfl Sub.nil))))) (fun _ hp => ((Hp.sub (Hp.pull (Hp.pull (Hp.pull hp 2 rfl) 2 rfl) 2 rfl) (List.sublist_append_left [_, _, _] _))).cong (by dsimp only; rw [hts]; try rfl))
      ·
        have g1' := g1
        try simp only [Bool.not_eq_true', Bool.not_eq_false', Bool.not_not, decide_eq_true_eq, decide_eq_false_iff_not, beq_iff_eq, beq_eq_false_iff_ne, bne_iff_ne, bne_eq_false_iff_eq, Bool.and_eq_true, Bool.or_eq_true, Bool.and_eq_false_iff, Bool.or_eq_false_iff, inB] at g1'
        refine rl_skip (gw_not rfl rfl g1) rfl ?_
        refine rl_skip (gw_not rfl rfl g1) rfl ?_
        refine rl_skip (gw_not rfl rfl g1) rfl ?_
        refine rl_skip (gw_not rfl rfl g1) rfl ?_
        refine rl_skip (gw_not rfl rfl g1) rfl ?_
        refine rl_skip (gw_not rfl rfl g1) rfl ?_
        refine rl_skip (gw_not rfl rfl g1) rfl ?_
        refine rl_val gw_none (ov_pick_f rfl g1 rfl) rfl ?_
        refine rl_nil ?_
        refine at_then ?_
        refine ct_false rfl rfl ?_
        refine ct_skip ?_
        refine at_block ?_
        refine at_then ?_
        refine ct_reg ?_
        refine rl_val gw_none (ov_add rfl rfl (by omega)) rfl ?_
        refine rl_val gw_none (ov_move rfl) rfl ?_
        refine rl_nil ?_
        have hts := wrgP_no (xs := xs) hxi (by first | omega | (simp at *; omega))
        exact at_backR (k + 1, bo, cap, pad) ⟨hk2, by dsimp only; rw [hts]; exact hsl⟩ (by dsimp only; omega) (by dsimp only; rw [hts]; (repeat' (first | exact Sub.nil | refine Sub.cons ?_ ?_)); all_goals (first | rfl | exact lkInt rfl (by omega))) (Sub.cons rfl (Sub.cons rfl (Sub.cons rfl (Sub.cons rfl (Sub.cons rfl Sub.nil))))) (fun _ hp => ((Hp.sub (Hp.pull (Hp.pull (Hp.pull hp 2 rfl) 2 rfl) 2 rfl) (List.sublist_append_left [_, _, _] _))).cong (by dsimp only; rw [hts]; try rfl))
    ·
      have hke : k = im.length := by omega
      subst hke
      refine ct_exit ?_
      refine at_then_exit ?_
      refine at_then_exit ?_
      refine at_block_hit ?_
      refine at_then ?_
      refine ct_seq ?_
      refine ct_reg ?_
      refine rl_val gw_none (ov_move rfl) rfl ?_
      refine rl_val gw_none (ov_assign rfl) rfl ?_
      refine rl_val gw_none (ov_assign rfl) rfl ?_
      refine rl_nil ?_
      refine at_then ?_
      refine ct_ret ?_
      refine at_ret2 Try.results27 (ro_tmp rfl) (ro_tmp rfl) (fun w1 hp => ?_)
      first | (rw [wrgR_no (show mindB u l xs cl im be gu = false by simpa using h1), show mindB u l xs cl im be gu = false by simpa using h1]; first | exact RetSl.nil hp.ext0 | exact RetSl.lit 0 hp rfl rfl (by decide) | exact RetSl.lit 0 hp rfl rfl (by decide)) | (rw [wrgR_yes hok, hok]; exact RetSl.own 0 hp rfl hsl)

theorem sWrongRods_c (u : Int) (l : Int) (xs : List IntA2) (cl : List Int) (im : List Int) (be : Int) (gu : Int) (vxs : Value) (vcl : Value) (vim : Value) (w : World) (zu : In64 u) (zl : In64 l) (hGxs : ∀ y ∈ xs, GIntA2 y) (hsxs : SR w 2 vxs xs.length (flat encIntA2 xs)) (hscl : SR w 1 vcl cl.length (ints cl)) (hsim : SR w 1 vim im.length (ints im)) (zbe : In64 be) (zgu : In64 gu) : Calls Try.prog 25 ([.agg (List.toArray (α := Value) [.int .i64 u, .int .i64 l, vxs, vcl, vim, .int .i64 be, .int .i64 gu])]).toArray w (fun e w' => RetSl 3 1 (ints (wrgR (mindB u l xs cl im be gu) im xs)) ((wrgR (mindB u l xs cl im be gu) im xs).length) (fun s => .tuple #[s, .bool (mindB u l xs cl im be gu)]) w e w') := by
  obtain ⟨axs, capxs, rfl, hcapxs, hmaxxs⟩ := hsxs.slice
  have hlenxs := hsxs.len_le
  obtain ⟨acl, capcl, rfl, hcapcl, hmaxcl⟩ := hscl.slice
  have hlencl := hscl.len_le
  obtain ⟨aim, capim, rfl, hcapim, hmaxim⟩ := hsim.slice
  have hlenim := hsim.len_le
  refine calls_ct Try.func25 Try.ntmps25 rfl rfl ?_
  refine ct_seq ?_
  refine ct_reg ?_
  refine rl_box rfl rfl (fun N1 => ?_)
  refine rl_val gw_none (ov_assign rfl) rfl ?_
  refine rl_val gw_none (ov_assign rfl) rfl ?_
  refine rl_nil ?_
  refine at_then ?_
  refine ct_seq ?_
  refine ct_reg ?_
  refine rl_bslice Try.underlying27 ze3 sz3 rfl rfl rfl rfl rfl rfl (fun N2 => ?_)
  refine rl_val gw_none (ov_assign rfl) rfl ?_
  refine rl_nil ?_
  refine at_then ?_
  refine ct_seq ?_
  refine ct_seq ?_
  refine ct_reg ?_
  first | refine rl_val gw_none (ov_loadall 1 ag29 rfl rfl rfl) rfl ?_ | refine rl_val gw_none (ov_loadp 1 ag29 rfl rfl (vs := [_, _, _, _, _, _, _]) rfl rfl) rfl ?_ | refine rl_val gw_none (ov_loada 1 ag29 rfl rfl rfl (by assumption)) rfl ?_
  refine rl_callv gw_none goes83 rfl (fun w1 hp => l21Good_c u l xs cl im be gu _ _ _ _ zu zl hGxs (hsxs.ext hp.ext0) (hscl.ext hp.ext0) (hsim.ext hp.ext0) zbe zgu) rfl ?_
  refine rl_val gw_none (ov_not rfl) rfl ?_
  refine rl_nil ?_
  refine at_then ?_
  first | refine ct_dec rfl (fun h1 => ?_) (fun h1 => ?_) | refine ct_ndec rfl (fun h1 => ?_) (fun h1 => ?_) | refine ct_eq rfl (fun h1 => ?_) (fun h1 => ?_) | refine ct_ne rfl (fun h1 => ?_) (fun h1 => ?_) | refine ct_not rfl (fun h1 => ?_) (fun h1 => ?_) | refine ct_cond rfl (fun h1 => ?_) (fun h1 => ?_)
  ·
    refine ct_seq ?_
    refine ct_reg ?_
    refine rl_val gw_none (ov_move rfl) rfl ?_
    refine rl_val gw_none (ov_assign rfl) rfl ?_
    refine rl_val gw_none (ov_assign rfl) rfl ?_
    refine rl_nil ?_
    refine at_then ?_
    refine ct_ret ?_
    refine at_then_ret ?_
    refine at_ret2 Try.results25 (ro_tmp rfl) (ro_tmp rfl) (fun w1 hp => ?_)
    first | (rw [wrgR_no (show mindB u l xs cl im be gu = false by simpa using h1), show mindB u l xs cl im be gu = false by simpa using h1]; first | exact RetSl.nil hp.ext0 | exact RetSl.lit 0 hp rfl rfl (by decide) | exact RetSl.lit 0 hp rfl rfl (by decide)) | (rw [wrgR_yes hok, hok]; exact RetSl.own 0 hp rfl hsl)
  ·
    have hok : mindB u l xs cl im be gu = true := by simpa using h1
    have hmh := mindB_h hok
    have hf := goodB_f hmh.1
    have hnb := numF_all hf
    have hgd := hmh.1
    have h8 := (frameB_ul hf).2.2.2
    have hl1 := (frameB_ul hf).2.2.1
    have hil : im.length = xs.length := by omega
    refine ct_skip ?_
    refine at_then ?_
    refine ct_seq ?_
    refine ct_seq ?_
    refine ct_reg ?_
    refine rl_val gw_none (ov_assign rfl) rfl ?_
    refine rl_nil ?_
    refine at_then ?_
    refine ct_block ?_
    refine ct_loopR (ι := Nat × Option Nat × Nat × List Value) (fun p0 => [(4, sv p0.2.1 (wrgP im xs p0.1).length p0.2.2.1), (5, .int .i64 p0.1)]) [(1, _), (2, _), (3, _)] (fun p0 => [(p0.2.1, 3, ints (wrgP im xs p0.1) ++ p0.2.2.2), _]) (fun p0 => p0.1 ≤ im.length ∧ Sl 1 p0.2.1 (wrgP im xs p0.1).length p0.2.2.1 (ints (wrgP im xs p0.1)) p0.2.2.2) (fun p0 => im.length - p0.1) ((0, some N2, 0, [])) (Sub.cons rfl (Sub.cons rfl (Sub.cons rfl Sub.nil))) (fun _ hp => (Hp.sub (Hp.pull (Hp.pull hp 1 rfl) 1 rfl) (List.sublist_append_left [_, _] _))) (by (repeat' (first | exact Sub.nil | refine Sub.cons ?_ ?_)); all_goals (first | rfl | exact lkInt rfl (by omega))) ⟨Nat.zero_le _, Sl.lit rfl (Nat.zero_le _)⟩ (fun p0 hp0 => ?_)
    obtain ⟨k, bo, cap, pad⟩ := p0
    obtain ⟨hk, hsl⟩ := hp0
    dsimp only at hk hsl
    try dsimp only
    have hwl := wrgP_len im xs k
    refine ct_seq ?_
    refine ct_seq ?_
    refine ct_reg ?_
    refine rl_val gw_none (ov_move rfl) rfl ?_
    refine rl_val gw_none (ov_field fo29_2 rfl) rfl ?_
    first | refine rl_val gw_none (ov_load 1 sc27 rfl rfl rfl) rfl ?_ | refine rl_val gw_none (ov_load 1 sc27 rfl rfl (by assumption)) rfl ?_
    refine rl_val gw_none (ov_len Try.underlying27 rfl) rfl ?_
    refine rl_val gw_none (ov_lss rfl rfl) rfl ?_
    refine rl_nil ?_
    refine at_then ?_
    first | refine ct_dec rfl (fun h2 => ?_) (fun h2 => ?_) | refine ct_ndec rfl (fun h2 => ?_) (fun h2 => ?_) | refine ct_eq rfl (fun h2 => ?_) (fun h2 => ?_) | refine ct_ne rfl (fun h2 => ?_) (fun h2 => ?_) | refine ct_not rfl (fun h2 => ?_) (fun h2 => ?_) | refine ct_cond rfl (fun h2 => ?_) (fun h2 => ?_)
    ·
      have hk2 : k < im.length := by omega
      obtain ⟨bi, oi, rfl, hei⟩ := hsim.int hk2
      have hxi := getLt hk2
      obtain ⟨c, hxc⟩ : ∃ c, cl[k]? = some c := ⟨_, getLt (show k < cl.length by omega)⟩
      have hmb := mindB_at hok hxi hxc
      generalize im[k] = d at *
      have hci := hei k d hxi
      obtain ⟨br, or_, rfl, her⟩ := hsxs.elem encIntA2_len (by omega) (show k < xs.length by omega)
      have hxr := getLt (show k < xs.length by omega)
      have hrg := good_at hgd hxr
      have hrv := rvAt_eq hxr
      generalize xs[k] = r at *
      have hcr := her k r hxr
      refine ct_skip ?_
      refine at_then ?_
      refine ct_seq ?_
      refine ct_block ?_
      refine ct_seq ?_
      refine ct_dr 21 (by kernel_rfl) (by kernel_rfl) ?_
      refine ql_val gw_none (ov_field fo29_2 rfl) rfl ?_
      first | refine ql_val gw_none (ov_load 1 sc27 rfl rfl rfl) rfl ?_ | refine ql_val gw_none (ov_load 1 sc27 rfl rfl (by assumption)) rfl ?_
      refine ql_val gw_none (ov_move rfl) rfl ?_
      first | refine ql_val gw_none (ov_ix Try.underlying27 sz3 rfl rfl _ rfl (by omega)) rfl ?_ | refine ql_val gw_none (ov_ix Try.underlying27 sz3 rfl rfl (k) (by omega) (by omega)) rfl ?_
      first | refine ql_val gw_none (ov_load 0 sc3 rfl rfl rfl) rfl ?_ | refine ql_val gw_none (ov_load 1 sc3 rfl rfl rfl) rfl ?_ | refine ql_val gw_none (ov_load 2 sc3 rfl rfl rfl) rfl ?_ | refine ql_val gw_none (ov_load 3 sc3 rfl rfl rfl) rfl ?_ | refine ql_val gw_none (ov_loadw sc3 rfl (by assumption)) rfl ?_ | refine ql_val gw_none (ov_load 0 sc3 rfl rfl (by assumption)) rfl ?_ | refine ql_val gw_none (ov_load 1 sc3 rfl rfl (by assumption)) rfl ?_ | refine ql_val gw_none (ov_load 2 sc3 rfl rfl (by assumption)) rfl ?_ | refine ql_val gw_none (ov_load 3 sc3 rfl rfl (by assumption)) rfl ?_
      refine ql_val gw_none (ov_geq rfl rfl) rfl ?_
      refine ql_val gw_none (ov_move rfl) rfl ?_
      refine ql_split (t := 24) rfl (fun g1 => ?_) (fun g1 => ?_)
      ·
        have g1' := g1
        try simp only [Bool.not_eq_true', Bool.not_eq_false', Bool.not_not, decide_eq_true_eq, decide_eq_false_iff_not, beq_iff_eq, beq_eq_false_iff_ne, bne_iff_ne, bne_eq_false_iff_eq, Bool.and_eq_true, Bool.or_eq_true, Bool.and_eq_false_iff, Bool.or_eq_false_iff, inB] at g1'
        refine ql_val (gw_some rfl rfl g1) (ov_field fo29_2 rfl) rfl ?_
        first | refine ql_val (gw_some rfl rfl g1) (ov_load 1 sc27 rfl rfl rfl) rfl ?_ | refine ql_val (gw_some rfl rfl g1) (ov_load 1 sc27 rfl rfl (by assumption)) rfl ?_
        refine ql_val (gw_some rfl rfl g1) (ov_move rfl) rfl ?_
        first | refine ql_val (gw_some rfl rfl g1) (ov_ix Try.underlying27 sz3 rfl rfl _ rfl (by omega)) rfl ?_ | refine ql_val (gw_some rfl rfl g1) (ov_ix Try.underlying27 sz3 rfl rfl (k) (by omega) (by omega)) rfl ?_
        first | refine ql_val (gw_some rfl rfl g1) (ov_load 0 sc3 rfl rfl rfl) rfl ?_ | refine ql_val (gw_some rfl rfl g1) (ov_load 1 sc3 rfl rfl rfl) rfl ?_ | refine ql_val (gw_some rfl rfl g1) (ov_load 2 sc3 rfl rfl rfl) rfl ?_ | refine ql_val (gw_some rfl rfl g1) (ov_load 3 sc3 rfl rfl rfl) rfl ?_ | refine ql_val (gw_some rfl rfl g1) (ov_loadw sc3 rfl (by assumption)) rfl ?_ | refine ql_val (gw_some rfl rfl g1) (ov_load 0 sc3 rfl rfl (by assumption)) rfl ?_ | refine ql_val (gw_some rfl rfl g1) (ov_load 1 sc3 rfl rfl (by assumption)) rfl ?_ | refine ql_val (gw_some rfl rfl g1) (ov_load 2 sc3 rfl rfl (by assumption)) rfl ?_ | refine ql_val (gw_some rfl rfl g1) (ov_load 3 sc3 rfl rfl (by assumption)) rfl ?_
        refine ql_val (gw_some rfl rfl g1) (ov_field fo29_0 rfl) rfl ?_
        refine ql_val (gw_some rfl rfl g1) (ov_field fo26_2 rfl) rfl ?_
        first | refine ql_val (gw_some rfl rfl g1) (ov_load 1 sc22 rfl rfl rfl) rfl ?_ | refine ql_val (gw_some rfl rfl g1) (ov_load 1 sc22 rfl rfl (by assumption)) rfl ?_
        refine ql_val (gw_some rfl rfl g1) (ov_move rfl) rfl ?_
        first | refine ql_val (gw_some rfl rfl g1) (ov_ix Try.underlying22 sz81 rfl rfl _ rfl (by omega)) rfl ?_ | refine ql_val (gw_some rfl rfl g1) (ov_ix Try.underlying22 sz81 rfl rfl (k) (by omega) (by omega)) rfl ?_
        first | refine ql_val (gw_some rfl rfl g1) (ov_loadaw ag81 rfl rfl (by assumption)) rfl ?_ | refine ql_val (gw_some rfl rfl g1) (ov_loadall 0 ag81 rfl rfl rfl) rfl ?_ | refine ql_val (gw_some rfl rfl g1) (ov_loadall 1 ag81 rfl rfl rfl) rfl ?_ | refine ql_val (gw_some rfl rfl g1) (ov_loadall 2 ag81 rfl rfl rfl) rfl ?_ | refine ql_val (gw_some rfl rfl g1) (ov_loadall 3 ag81 rfl rfl rfl) rfl ?_
        refine ql_callv (gw_some rfl rfl g1) goes84 rfl (fun w1 hp => l2Value_c r _ (by omega)) rfl ?_
        refine ql_val (gw_some rfl rfl g1) (ov_neq rfl rfl) rfl ?_
        refine ql_val gw_none (ov_pick_t rfl g1 rfl) rfl ?_
        refine ql_nil ?_
        refine rl_nil ?_
        refine at_then ?_
        first | refine ct_dec rfl (fun h3 => ?_) (fun h3 => ?_) | refine ct_ndec rfl (fun h3 => ?_) (fun h3 => ?_) | refine ct_eq rfl (fun h3 => ?_) (fun h3 => ?_) | refine ct_ne rfl (fun h3 => ?_) (fun h3 => ?_) | refine ct_not rfl (fun h3 => ?_) (fun h3 => ?_) | refine ct_cond rfl (fun h3 => ?_) (fun h3 => ?_)
        ·
          refine ct_reg ?_
          refine rl_val gw_none (ov_move rfl) rfl ?_
          refine rl_val gw_none (ov_move rfl) rfl ?_
          refine rl_bslice Try.underlying27 ze3 sz3 rfl rfl rfl rfl rfl rfl (fun N3 => ?_)
          refine rl_appT (ints) (ints_append) [_] (acc := wrgP im xs k) Try.underlying27 ze3 sz3 rfl rfl by3 rfl rfl rfl hsl ([(k : Int)]) rfl (fun w1 hp => hp.sr1 0 rfl rfl (by decide)) (ints_one _) (by unfold maxLen; omega) (by omega) rfl (fun boq1 capq1 padq1 hsq1 => ?_)
          refine rl_val gw_none (ov_assign rfl) rfl ?_
          refine rl_nil ?_
          refine at_block ?_
          refine at_then ?_
          refine ct_reg ?_
          refine rl_val gw_none (ov_move rfl) rfl ?_
          refine rl_val gw_none (ov_add rfl rfl (by omega)) rfl ?_
          refine rl_val gw_none (ov_assign rfl) rfl ?_
          refine rl_nil ?_
          have hts := wrgP_yes (xs := xs) hxi (by first | omega | (simp at g1; omega)) (by first | omega | (simp at *; omega))
          exact at_backR (k + 1, boq1, capq1, padq1) ⟨hk2, by dsimp only; rw [hts]; exact hsq1⟩ (by dsimp only; omega) (by dsimp only; rw [hts]; (repeat' (first | exact Sub.nil | refine Sub.cons ?_ ?_)); all_goals (first | rfl | exact lkInt rfl (by omega))) (Sub.cons rfl (Sub.cons rfl (Sub.cons rfl Sub.nil))) (fun _ hp => ((Hp.sub (Hp.pull (Hp.pull hp 2 rfl) 2 rfl) (List.sublist_append_left [_, _] _))).cong (by dsimp only; rw [hts]; try rfl))
        ·
          refine ct_skip ?_
          refine at_block ?_
          refine at_then ?_
          refine ct_reg ?_
          refine rl_val gw_none (ov_move rfl) rfl ?_
          refine rl_val gw_none (ov_add rfl rfl (by omega)) rfl ?_
          refine rl_val gw_none (ov_assign rfl) rfl ?_
          refine rl_nil ?_
          have hts := wrgP_no (xs := xs) hxi (by first | omega | (simp at *; omega))
          exact at_backR (k + 1, bo, cap, pad) ⟨hk2, by dsimp only; rw [hts]; exact hsl⟩ (by dsimp only; omega) (by dsimp only; rw [hts]; (repeat' (first | exact Sub.nil | refine Sub.cons ?_ ?_)); all_goals (first | rfl | exact lkInt rfl (by omega))) (Sub.cons rfl (Sub.cons rfl (Sub.cons rfl Sub.nil))) (fun _ hp => ((Hp.sub (Hp.pull (Hp.pull hp 1 rfl) 1 rfl) (List.sublist_append_left [_, _] _))).cong (by dsimp only; rw [hts]; try rfl))
      ·
        have g1' := g1
        try simp only [Bool.not_eq_true', Bool.not_eq_false', Bool.not_not, decide_eq_true_eq, decide_eq_false_iff_not, beq_iff_eq, beq_eq_false_iff_ne, bne_iff_ne, bne_eq_false_iff_eq, Bool.and_eq_true, Bool.or_eq_true, Bool.and_eq_false_iff, Bool.or_eq_false_iff, inB] at g1'
        refine ql_skip (gw_not rfl rfl g1) rfl ?_
        refine ql_skip (gw_not rfl rfl g1) rfl ?_
        refine ql_skip (gw_not rfl rfl g1) rfl ?_
        refine ql_skip (gw_not rfl rfl g1) rfl ?_
        refine ql_skip (gw_not rfl rfl g1) rfl ?_
        refine ql_skip (gw_not rfl rfl g1) rfl ?_
        refine ql_skip (gw_not rfl rfl g1) rfl ?_
        refine ql_skip (gw_not rfl rfl g1) rfl ?_
        refine ql_skip (gw_not rfl rfl g1) rfl ?_
        refine ql_skip (gw_not rfl rfl g1) rfl ?_
        refine ql_skip (gw_not rfl rfl g1) rfl ?_
        refine ql_skip (gw_not rfl rfl g1) rfl ?_
        refine ql_skip (gw_not rfl rfl g1) rfl ?_
        refine ql_val gw_none (ov_pick_f rfl g1 rfl) rfl ?_
        refine ql_nil ?_
        refine rl_nil ?_
        refine at_then ?_
        refine ct_false rfl rfl ?_
        refine ct_skip ?_
        refine at_block ?_
        refine at_then ?_
        refine ct_reg ?_
        refine rl_val gw_none (ov_move rfl) rfl ?_
        refine rl_val gw_none (ov_add rfl rfl (by omega)) rfl ?_
        refine rl_val gw_none (ov_assign rfl) rfl ?_
        refine rl_nil ?_
        have hts := wrgP_no (xs := xs) hxi (by first | omega | (simp at *; omega))
        exact at_backR (k + 1, bo, cap, pad) ⟨hk2, by dsimp only; rw [hts]; exact hsl⟩ (by dsimp only; omega) (by dsimp only; rw [hts]; (repeat' (first | exact Sub.nil | refine Sub.cons ?_ ?_)); all_goals (first | rfl | exact lkInt rfl (by omega))) (Sub.cons rfl (Sub.cons rfl (Sub.cons rfl Sub.nil))) (fun _ hp => ((Hp.sub (Hp.pull (Hp.pull hp 1 rfl) 1 rfl) (List.sublist_append_left [_, _] _))).cong (by dsimp only; rw [hts]; try rfl))
    ·
      have hke : k = im.length := by omega
      subst hke
      refine ct_exit ?_
      refine at_then_exit ?_
      refine at_then_exit ?_
      refine at_block_hit ?_
      refine at_then ?_
      refine ct_seq ?_
      refine ct_reg ?_
      refine rl_val gw_none (ov_move rfl) rfl ?_
      refine rl_val gw_none (ov_assign rfl) rfl ?_
      refine rl_val gw_none (ov_assign rfl) rfl ?_
      refine rl_nil ?_
      refine at_then ?_
      refine ct_ret ?_
      refine at_ret2 Try.results25 (ro_tmp rfl) (ro_tmp rfl) (fun w1 hp => ?_)
      first | (rw [wrgR_no (show mindB u l xs cl im be gu = false by simpa using h1), show mindB u l xs cl im be gu = false by simpa using h1]; first | exact RetSl.nil hp.ext0 | exact RetSl.lit 0 hp rfl rfl (by decide) | exact RetSl.lit 0 hp rfl rfl (by decide)) | (rw [wrgR_yes hok, hok]; exact RetSl.own 0 hp rfl hsl)
end Go.Proofs.Ytnnhkpecgchgiaa
