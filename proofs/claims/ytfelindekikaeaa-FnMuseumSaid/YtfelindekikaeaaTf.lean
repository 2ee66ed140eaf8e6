import Derived.Test.YtfelindekikaeaaTb
import Derived.KernelRfl
set_option linter.unusedVariables false
set_option linter.unusedSimpArgs false
namespace Go.Proofs.Ytfelindekikaeaa
open Go Go.RowKit K
theorem byAge_c (xs : List Exhibit) (vxs : Value) (w : World) (hGxs : ∀ y ∈ xs, GExhibit y) (hsxs : SR w 7 vxs xs.length (flat encExhibit xs)) (h10 : xs.length ≤ 10) : Calls Try.prog 56 ([vxs]).toArray w (fun e w' => RetSl 46 7 (flat encExhibit (ageL xs)) (ageL xs).length (fun s => s) w e w') := by
  obtain ⟨axs, capxs, rfl, hcapxs, hmaxxs⟩ := hsxs.slice
  have hlenxs := hsxs.len_le
  refine calls_ct Try.func56 Try.ntmps56 rfl rfl ?_
  refine ct_seq ?_
  refine ct_reg ?_
  refine rl_val gw_none (ov_assign rfl) rfl ?_
  refine rl_nil ?_
  refine at_then ?_
  refine ct_seq ?_
  refine ct_reg ?_
  refine rl_val gw_none (ov_assign rfl) rfl ?_
  refine rl_nil ?_
  refine at_then ?_
  refine ct_seq ?_
  refine ct_seq ?_
  refine ct_reg ?_
  refine rl_val gw_none (ov_move rfl) rfl ?_
  refine rl_val gw_none (ov_len Try.underlying27 rfl) rfl ?_
  refine rl_val gw_none (ov_move rfl) rfl ?_
  refine rl_nil ?_
  refine at_then ?_
  refine ct_block ?_
  refine ct_loopR (ι := Nat × Option Nat × Nat × List Value) (fun p0 => [(3, sv p0.2.1 (ageL (xs.take p0.1)).length p0.2.2.1), (9, .int .i64 p0.1)]) [(2, _), (7, _), (8, _)] (fun p0 => [(p0.2.1, 46, flat encExhibit (ageL (xs.take p0.1)) ++ p0.2.2.2)]) (fun p0 => p0.1 ≤ xs.length ∧ Sl 7 p0.2.1 (ageL (xs.take p0.1)).length p0.2.2.1 (flat encExhibit (ageL (xs.take p0.1))) p0.2.2.2) (fun p0 => xs.length - p0.1) ((0, none, 0, [])) (Sub.cons rfl (Sub.cons rfl (Sub.cons rfl Sub.nil))) (fun _ hq => hq.nil 46) (by (repeat' (first | exact Sub.nil | refine Sub.cons ?_ ?_)); all_goals (first | rfl | exact lkInt rfl (by omega))) ⟨Nat.zero_le _, Sl.nil0 _⟩ (fun p0 hp0 => ?_)
  obtain ⟨k, bo, cap, pad⟩ := p0
  obtain ⟨hk, hsl⟩ := hp0
  dsimp only at hk hsl
  try dsimp only
  have hcl := hsl.le
  refine ct_seq ?_
  refine ct_reg ?_
  refine rl_val gw_none (ov_lss rfl rfl) rfl ?_
  refine rl_nil ?_
  refine at_then ?_
  refine ct_seq ?_
  first | refine ct_dec rfl (fun h1 => ?_) (fun h1 => ?_) | refine ct_ndec rfl (fun h1 => ?_) (fun h1 => ?_) | refine ct_eq rfl (fun h1 => ?_) (fun h1 => ?_) | refine ct_ne rfl (fun h1 => ?_) (fun h1 => ?_) | refine ct_not rfl (fun h1 => ?_) (fun h1 => ?_) | refine ct_cond rfl (fun h1 => ?_) (fun h1 => ?_)
  ·
    have hk2 : k < xs.length := by first | omega | (simpa using @g)
    obtain ⟨b, o, rfl, hel⟩ := hsxs.elem encExhibit_len (by omega) hk2
    have hx := getLt hk2
    have hgx := hGxs _ (List.getElem_mem hk2)
    generalize xs[k] = x at *
    have hcx := hel k x hx
    obtain ⟨c0, c1, c2, c3, c4, c5, c6, _⟩ := hel k x hx
    have hon : (ageL (xs.take k)).length = k := by rw [ordG_len, List.length_take]; omega
    have hst : (ageL (xs.take (k + 1))) = insO ageG (ageL (xs.take k)) x := ordG_snoc hx
    refine ct_skip ?_
    refine at_then ?_
    refine ct_seq ?_
    refine ct_block ?_
    refine ct_seq ?_
    refine ct_reg ?_
    first | refine rl_val gw_none (ov_ix Try.underlying27 sz46 rfl rfl _ rfl (by omega)) rfl ?_ | refine rl_val gw_none (ov_ix Try.underlying27 sz46 rfl rfl (p) (by omega) (by omega)) rfl ?_ | refine rl_val gw_none (ov_ix Try.underlying27 sz46 rfl rfl (z) (by omega) (by omega)) rfl ?_ | refine rl_val gw_none (ov_ix Try.underlying27 sz46 rfl rfl (k) (by omega) (by omega)) rfl ?_
    first | refine rl_val gw_none (ov_loadaw ag46 rfl rfl (by assumption)) rfl ?_ | refine rl_val gw_none (ov_loadall 0 ag46 rfl rfl rfl) rfl ?_ | refine rl_val gw_none (ov_loadall 1 ag46 rfl rfl rfl) rfl ?_ | refine rl_val gw_none (ov_loadall 2 ag46 rfl rfl rfl) rfl ?_ | refine rl_val gw_none (ov_loadall 3 ag46 rfl rfl rfl) rfl ?_
    refine rl_alloc ze46 rfl (fun N1 => ?_)
    refine rl_store [] sz46 rfl rfl rfl rfl rfl (Nat.le_of_ble_eq_true rfl) ?_
    refine rl_nil ?_
    refine at_then ?_
    refine ct_seq ?_
    refine ct_reg ?_
    refine rl_val gw_none (ov_move rfl) rfl ?_
    refine rl_val gw_none (ov_len Try.underlying27 rfl) rfl ?_
    refine rl_val gw_none (ov_assign rfl) rfl ?_
    refine rl_nil ?_
    refine at_then ?_
    refine ct_seq ?_
    refine ct_block ?_
    refine ct_loopR (ι := Nat) (fun q => [(6, .int .i64 q)]) [(2, _), (3, _), (5, _), (7, _), (8, _), (9, _)] (fun _ => _) (fun q => q ≤ (ageL (xs.take k)).length ∧ insQ ageG (ageL (xs.take k)) x q = insQ ageG (ageL (xs.take k)) x (ageL (xs.take k)).length) (fun q => q) ((ageL (xs.take k)).length) (Sub.cons rfl (Sub.cons rfl (Sub.cons rfl (Sub.cons rfl (Sub.cons rfl (Sub.cons rfl Sub.nil)))))) (fun _ hq => hq) (by (repeat' (first | exact Sub.nil | refine Sub.cons ?_ ?_)); all_goals (first | rfl | exact lkInt rfl (by omega))) ⟨Nat.le_refl _, rfl⟩ (fun q hq => ?_)
    obtain ⟨hql, hins⟩ := hq
    refine ct_seq ?_
    refine ct_seq ?_
    refine ct_dr 13 (by kernel_rfl) (by kernel_rfl) ?_
    refine ql_val gw_none (ov_move rfl) rfl ?_
    refine ql_val gw_none (ov_gtr rfl rfl) rfl ?_
    refine ql_val gw_none (ov_move rfl) rfl ?_
    refine ql_split (t := 17) rfl (fun g1 => ?_) (fun g1 => ?_)
    ·
      have hq0 : 0 < q := by simpa using g1
      obtain ⟨p, rfl⟩ : ∃ p, q = p + 1 := ⟨q - 1, by omega⟩
      have hp2 : p < (ageL (xs.take k)).length := by omega
      obtain ⟨bz, rfl⟩ := slSomeG hsl (by omega)
      have hy := getLt hp2
      generalize (ageL (xs.take k))[p] = y at *
      refine ql_val (gw_some rfl rfl g1) (ov_move rfl) rfl ?_
      refine ql_val (gw_some rfl rfl g1) (ov_move rfl) rfl ?_
      refine ql_val (gw_some rfl rfl g1) (ov_sub rfl rfl (by omega)) rfl ?_
      first | refine ql_val (gw_some rfl rfl g1) (ov_ix Try.underlying27 sz46 rfl rfl _ rfl (by omega)) rfl ?_ | refine ql_val (gw_some rfl rfl g1) (ov_ix Try.underlying27 sz46 rfl rfl (p) (by omega) (by omega)) rfl ?_ | refine ql_val (gw_some rfl rfl g1) (ov_ix Try.underlying27 sz46 rfl rfl (z) (by omega) (by omega)) rfl ?_ | refine ql_val (gw_some rfl rfl g1) (ov_ix Try.underlying27 sz46 rfl rfl (k) (by omega) (by omega)) rfl ?_
      refine ql_val (gw_some rfl rfl g1) (ov_field fo46_2 rfl) rfl ?_
      refine ql_val (gw_some rfl rfl g1) (ov_load 1 sc3 rfl rfl (flatGetG encExhibit_len (f := 2) hy rfl _)) rfl ?_
      refine ql_val (gw_some rfl rfl g1) (ov_field fo46_2 rfl) rfl ?_
      first | refine ql_val (gw_some rfl rfl g1) (ov_load 0 sc3 rfl rfl rfl) rfl ?_ | refine ql_val (gw_some rfl rfl g1) (ov_load 0 sc3 rfl rfl (by assumption)) rfl ?_
      refine ql_val (gw_some rfl rfl g1) (ov_gtr rfl rfl) rfl ?_
      refine ql_val gw_none (ov_pick_t rfl g1 rfl) rfl ?_
      refine ql_nil ?_
      refine rl_nil ?_
      refine at_then ?_
      first | refine ct_dec rfl (fun h2 => ?_) (fun h2 => ?_) | refine ct_ndec rfl (fun h2 => ?_) (fun h2 => ?_) | refine ct_eq rfl (fun h2 => ?_) (fun h2 => ?_) | refine ct_ne rfl (fun h2 => ?_) (fun h2 => ?_) | refine ct_not rfl (fun h2 => ?_) (fun h2 => ?_) | refine ct_cond rfl (fun h2 => ?_) (fun h2 => ?_)
      ·
        refine ct_skip ?_
        refine at_then ?_
        refine ct_block ?_
        refine ct_reg ?_
        refine rl_val gw_none (ov_move rfl) rfl ?_
        refine rl_val gw_none (ov_sub rfl rfl (by omega)) rfl ?_
        refine rl_val gw_none (ov_assign rfl) rfl ?_
        refine rl_nil ?_
        refine at_block ?_
        have hg : ageG y x = true := decide_eq_true h2
        have hpy := insQ_yes hy hg
        exact at_backR p ⟨by omega, by rw [← hpy]; exact hins⟩ (by first | exact True.intro | omega | (dsimp only; omega) | (dsimp only at *; omega)) (by (repeat' (first | exact Sub.nil | refine Sub.cons ?_ ?_)); all_goals (first | rfl | exact lkInt rfl (by omega))) (Sub.cons rfl (Sub.cons rfl (Sub.cons rfl (Sub.cons rfl (Sub.cons rfl (Sub.cons rfl Sub.nil)))))) (fun _ hq => hq)
      ·
        have hg : ageG y x = false := decide_eq_false h2
        obtain ⟨z, hz⟩ : ∃ z, z = insQ ageG (ageL (xs.take k)) x (ageL (xs.take k)).length := ⟨_, rfl⟩
        have hze : p + 1 = z := by rw [hz, ← hins, insQ_no hy hg]
        have hzl := insQ_le ageG (ageL (xs.take k)) x (ageL (xs.take k)).length
        refine ct_exit ?_
        refine at_then_exit ?_
        refine at_then_exit ?_
        refine at_block_hit ?_
        refine at_then ?_
        refine ct_seq ?_
        refine ct_reg ?_
        refine rl_val gw_none (ov_move rfl) rfl ?_
        refine rl_val gw_none (ov_build rfl (bu46_)) rfl ?_
        refine rl_bslice Try.underlying27 ze46 sz46 rfl rfl rfl rfl rfl rfl (fun N2 => ?_)
        refine rl_appT (flat encExhibit) ((flat_append _)) [_, _] (acc := (ageL (xs.take k))) Try.underlying27 ze46 sz46 rfl rfl by46 rfl rfl rfl hsl ([zeroEx]) rfl (fun w1 hp => hp.sr1 0 rfl rfl (by decide)) (flat_one encExhibit_one _) (by unfold maxLen; first | omega | (simp; omega)) (by first | omega | (simp; omega)) rfl (fun boq1 capq1 padq1 hsq1 => ?_)
        obtain ⟨bq1, rfl⟩ := slSomeG hsq1 (by simp)
        have hol : ((ageL (xs.take k)) ++ [zeroEx]).length = (ageL (xs.take k)).length + 1 := by simp
        have hleq1 := hsq1.le
        refine rl_val gw_none (ov_assign rfl) rfl ?_
        refine rl_nil ?_
        refine at_then ?_
        refine ct_seq ?_
        refine ct_dr 7 (by kernel_rfl) (by kernel_rfl) ?_
        refine ql_val gw_none (ov_move rfl) rfl ?_
        refine ql_val gw_none (ov_move rfl) rfl ?_
        refine ql_val gw_none (ov_add rfl rfl (by omega)) rfl ?_
        refine ql_val gw_none (ov_subl Try.underlying27 sz46 rfl rfl (z + 1) (by omega) (by omega)) rfl ?_
        refine ql_val gw_none (ov_move rfl) rfl ?_
        refine ql_val gw_none (ov_move rfl) rfl ?_
        refine ql_val gw_none (ov_subl Try.underlying27 sz46 rfl rfl (z) (by omega) (by omega)) rfl ?_
        refine ql_nil ?_
        refine rl_copy [_, _] Try.underlying27 sz46 rfl rfl rfl rfl (fun w1 hp => (SR.drop (hp.slsr 2 rfl hsq1) (lo := z) (by omega) (by omega)).cast rfl (flat_drop encExhibit_len _ _).symm) ((ageL (xs.take k)).length - z) (by show _ = min _ _; omega) (by omega) (by rw [List.length_append, flat_length encExhibit_len, hol]; omega) (flat_one encExhibit_one _) rfl ?_
        refine rl_mem (fun _ hq => hq.cong (congrArg (fun x => _ :: _ :: (_, _, x) :: _) (copyFoldG encExhibit_len (by omega) _))) ?_
        refine rl_nil ?_
        refine at_then ?_
        refine ct_reg ?_
        refine rl_val gw_none (ov_move rfl) rfl ?_
        refine rl_val gw_none (ov_move rfl) rfl ?_
        first | refine rl_val gw_none (ov_loadall 1 ag46 rfl rfl rfl) rfl ?_ | refine rl_val gw_none (ov_loadp 1 ag46 rfl rfl (vs := [_, _, _, _, _, _, _]) rfl rfl) rfl ?_ | refine rl_val gw_none (ov_loada 1 ag46 rfl rfl rfl (by assumption)) rfl ?_
        refine rl_val gw_none (ov_ix Try.underlying27 sz46 rfl rfl (z) (by omega) (by omega)) rfl ?_
        refine rl_store [_, _] sz46 rfl rfl rfl rfl rfl (by rw [List.length_append, flat_length encExhibit_len]; simp; omega) ?_
        refine rl_mem (fun _ hq => hq.cong (congrArg (fun x => _ :: _ :: (_, _, x) :: _) (insPutG encExhibit_len (by omega) (show insO ageG (ageL (xs.take k)) x = _ by rw [insO, hz]) _))) ?_
        refine rl_nil ?_
        refine at_block ?_
        refine at_then ?_
        refine ct_reg ?_
        refine rl_val gw_none (ov_add rfl rfl (by omega)) rfl ?_
        refine rl_val gw_none (ov_move rfl) rfl ?_
        refine rl_nil ?_
        have hl2 : (ageL (xs.take (k + 1))).length = ((ageL (xs.take k)) ++ [zeroEx]).length := by rw [hst, insO_len]; simp
        exact at_backR (k + 1, some bq1, capq1, padq1) ⟨hk2, by dsimp only; exact slSameG encExhibit_len hsq1 hl2⟩ (by dsimp only; omega) (by dsimp only; rw [hl2]; (repeat' (first | exact Sub.nil | refine Sub.cons ?_ ?_)); all_goals (first | rfl | exact lkInt rfl (by omega))) (Sub.cons rfl (Sub.cons rfl (Sub.cons rfl Sub.nil))) (fun _ hp => ((Hp.sub (Hp.pull hp 2 rfl) (List.sublist_append_left [_] _))).cong (by dsimp only; rw [hst]; try rfl))
    ·
      have hq0 : q = 0 := by simp at g1; omega
      subst hq0
      obtain ⟨z, hz⟩ : ∃ z, z = insQ ageG (ageL (xs.take k)) x (ageL (xs.take k)).length := ⟨_, rfl⟩
      have hze : 0 = z := by rw [hz, ← hins]; rfl
      have hzl := insQ_le ageG (ageL (xs.take k)) x (ageL (xs.take k)).length
      refine ql_skip (gw_not rfl rfl g1) rfl ?_
      refine ql_skip (gw_not rfl rfl g1) rfl ?_
      refine ql_skip (gw_not rfl rfl g1) rfl ?_
      refine ql_skip (gw_not rfl rfl g1) rfl ?_
      refine ql_skip (gw_not rfl rfl g1) rfl ?_
      refine ql_skip (gw_not rfl rfl g1) rfl ?_
      refine ql_skip (gw_not rfl rfl g1) rfl ?_
      refine ql_skip (gw_not rfl rfl g1) rfl ?_
      refine ql_skip (gw_not rfl rfl g1) rfl ?_
      refine ql_val gw_none (ov_pick_f rfl g1 rfl) rfl ?_
      refine ql_nil ?_
      refine rl_nil ?_
      refine at_then ?_
      refine ct_false rfl rfl ?_
      refine ct_exit ?_
      refine at_then_exit ?_
      refine at_then_exit ?_
      refine at_block_hit ?_
      refine at_then ?_
      refine ct_seq ?_
      refine ct_reg ?_
      refine rl_val gw_none (ov_move rfl) rfl ?_
      refine rl_val gw_none (ov_build rfl (bu46_)) rfl ?_
      refine rl_bslice Try.underlying27 ze46 sz46 rfl rfl rfl rfl rfl rfl (fun N3 => ?_)
      refine rl_appT (flat encExhibit) ((flat_append _)) [_, _] (acc := (ageL (xs.take k))) Try.underlying27 ze46 sz46 rfl rfl by46 rfl rfl rfl hsl ([zeroEx]) rfl (fun w1 hp => hp.sr1 0 rfl rfl (by decide)) (flat_one encExhibit_one _) (by unfold maxLen; first | omega | (simp; omega)) (by first | omega | (simp; omega)) rfl (fun boq2 capq2 padq2 hsq2 => ?_)
      obtain ⟨bq2, rfl⟩ := slSomeG hsq2 (by simp)
      have hol : ((ageL (xs.take k)) ++ [zeroEx]).length = (ageL (xs.take k)).length + 1 := by simp
      have hleq2 := hsq2.le
      refine rl_val gw_none (ov_assign rfl) rfl ?_
      refine rl_nil ?_
      refine at_then ?_
      refine ct_seq ?_
      refine ct_dr 7 (by kernel_rfl) (by kernel_rfl) ?_
      refine ql_val gw_none (ov_move rfl) rfl ?_
      refine ql_val gw_none (ov_move rfl) rfl ?_
      refine ql_val gw_none (ov_add rfl rfl (by omega)) rfl ?_
      refine ql_val gw_none (ov_subl Try.underlying27 sz46 rfl rfl (z + 1) (by omega) (by omega)) rfl ?_
      refine ql_val gw_none (ov_move rfl) rfl ?_
      refine ql_val gw_none (ov_move rfl) rfl ?_
      refine ql_val gw_none (ov_subl Try.underlying27 sz46 rfl rfl (z) (by omega) (by omega)) rfl ?_
      refine ql_nil ?_
      refine rl_copy [_, _] Try.underlying27 sz46 rfl rfl rfl rfl (fun w1 hp => (SR.drop (hp.slsr 2 rfl hsq2) (lo := z) (by omega) (by omega)).cast rfl (flat_drop encExhibit_len _ _).symm) ((ageL (xs.take k)).length - z) (by show _ = min _ _; omega) (by omega) (by rw [List.length_append, flat_length encExhibit_len, hol]; omega) (flat_one encExhibit_one _) rfl ?_
      refine rl_mem (fun _ hq => hq.cong (congrArg (fun x => _ :: _ :: (_, _, x) :: _) (copyFoldG encExhibit_len (by omega) _))) ?_
      refine rl_nil ?_
      refine at_then ?_
      refine ct_reg ?_
      refine rl_val gw_none (ov_move rfl) rfl ?_
      refine rl_val gw_none (ov_move rfl) rfl ?_
      first | refine rl_val gw_none (ov_loadall 1 ag46 rfl rfl rfl) rfl ?_ | refine rl_val gw_none (ov_loadp 1 ag46 rfl rfl (vs := [_, _, _, _, _, _, _]) rfl rfl) rfl ?_ | refine rl_val gw_none (ov_loada 1 ag46 rfl rfl rfl (by assumption)) rfl ?_
      refine rl_val gw_none (ov_ix Try.underlying27 sz46 rfl rfl (z) (by omega) (by omega)) rfl ?_
      refine rl_store [_, _] sz46 rfl rfl rfl rfl rfl (by rw [List.length_append, flat_length encExhibit_len]; simp; omega) ?_
      refine rl_mem (fun _ hq => hq.cong (congrArg (fun x => _ :: _ :: (_, _, x) :: _) (insPutG encExhibit_len (by omega) (show insO ageG (ageL (xs.take k)) x = _ by rw [insO, hz]) _))) ?_
      refine rl_nil ?_
      refine at_block ?_
      refine at_then ?_
      refine ct_reg ?_
      refine rl_val gw_none (ov_add rfl rfl (by omega)) rfl ?_
      refine rl_val gw_none (ov_move rfl) rfl ?_
      refine rl_nil ?_
      have hl2 : (ageL (xs.take (k + 1))).length = ((ageL (xs.take k)) ++ [zeroEx]).length := by rw [hst, insO_len]; simp
      exact at_backR (k + 1, some bq2, capq2, padq2) ⟨hk2, by dsimp only; exact slSameG encExhibit_len hsq2 hl2⟩ (by dsimp only; omega) (by dsimp only; rw [hl2]; (repeat' (first | exact Sub.nil | refine Sub.cons ?_ ?_)); all_goals (first | rfl | exact lkInt rfl (by omega))) (Sub.cons rfl (Sub.cons rfl (Sub.cons rfl Sub.nil))) (fun _ hp => ((Hp.sub (Hp.pull hp 2 rfl) (List.sublist_append_left [_] _))).cong (by dsimp only; rw [hst]; try rfl))
  ·
    have hke : k = xs.length := by omega
    subst hke
    refine ct_exit ?_
    refine at_then_exit ?_
    refine at_then_exit ?_
    refine at_block_hit ?_
    refine at_then ?_
    refine ct_seq ?_
    refine ct_reg ?_
    refine rl_val gw_none (ov_move rfl) rfl ?_
    refine rl_val gw_none (ov_assign rfl) rfl ?_
    refine rl_nil ?_
    refine at_then ?_
    refine ct_ret ?_
    refine at_ret1 Try.results56 (ro_tmp rfl) (fun w1 hp => ?_)
    rw [show ageL xs = ageL (xs.take xs.length) by rw [List.take_length]]
    exact RetSl.own 0 hp rfl hsl
end Go.Proofs.Ytfelindekikaeaa
