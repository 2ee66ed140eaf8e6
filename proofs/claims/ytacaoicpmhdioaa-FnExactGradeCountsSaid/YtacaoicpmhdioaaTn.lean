import Derived.Test.YtacaoicpmhdioaaTf
import Derived.KernelRfl
set_option linter.unusedVariables false
set_option linter.unusedSimpArgs false
namespace Go.Proofs.Ytacaoicpmhdioaa
open Go Go.RowKit K
theorem iGradeCounts_c (d : Int) (xs : List Student) (pa : Int) (le : Int) (vxs : Value) (w : World) (zd : In64 d) (hGxs : ∀ y ∈ xs, GStudent y) (hsxs : SR w 5 vxs xs.length (flat encStudent xs)) (zpa : In64 pa) (zle : In64 le) : Calls Try.prog 29 ([.agg (List.toArray (α := Value) [.int .i64 d, vxs, .int .i64 pa, .int .i64 le])]).toArray w (fun e w' => RetSl 3 1 (ints (gradesR (schoolB d xs pa le) xs)) ((gradesR (schoolB d xs pa le) xs).length) (fun s => .tuple #[s, .bool (schoolB d xs pa le)]) w e w') := by
  obtain ⟨axs, capxs, rfl, hcapxs, hmaxxs⟩ := hsxs.slice
  have hlenxs := hsxs.len_le
  refine calls_ct Try.func29 Try.ntmps29 rfl rfl ?_
  refine ct_seq ?_
  refine ct_reg ?_
  refine rl_box rfl rfl (fun N1 => ?_)
  refine rl_val gw_none (ov_assign rfl) rfl ?_
  refine rl_val gw_none (ov_assign rfl) rfl ?_
  refine rl_nil ?_
  refine at_then ?_
  refine ct_seq ?_
  refine ct_seq ?_
  refine ct_reg ?_
  first | refine rl_val gw_none (ov_loadall 0 ag24 rfl rfl rfl) rfl ?_ | refine rl_val gw_none (ov_loada 0 ag24 rfl rfl rfl (by assumption)) rfl ?_
  refine rl_callv gw_none goes23 rfl (fun w1 hp => iIsSchool_c d xs pa le _ _ zd hGxs (hsxs.ext hp.ext0) zpa zle) rfl ?_
  refine rl_val gw_none (ov_not rfl) rfl ?_
  refine rl_nil ?_
  refine at_then ?_
  first | refine ct_dec rfl (fun h1 => ?_) (fun h1 => ?_) | refine ct_ndec rfl (fun h1 => ?_) (fun h1 => ?_) | refine ct_eq rfl (fun h1 => ?_) (fun h1 => ?_) | refine ct_ne rfl (fun h1 => ?_) (fun h1 => ?_) | refine ct_not rfl (fun h1 => ?_) (fun h1 => ?_) | refine ct_cond rfl (fun h1 => ?_) (fun h1 => ?_)
  ·
    refine ct_seq ?_
    refine ct_reg ?_
    refine rl_val gw_none (ov_assign rfl) rfl ?_
    refine rl_val gw_none (ov_assign rfl) rfl ?_
    refine rl_nil ?_
    refine at_then ?_
    refine ct_ret ?_
    refine at_then_ret ?_
    refine at_ret2 Try.results29 (ro_tmp rfl) (ro_tmp rfl) (fun w1 hp => ?_)
    first | (rw [gradesR_no (show (schoolB d xs pa le) = false by simpa using h1), show (schoolB d xs pa le) = false by simpa using h1]; first | exact RetSl.nil hp.ext0 | exact RetSl.lit 0 hp rfl rfl (by decide)) | (have hout := hI.eq; rw [hke, List.take_length] at hout; rw [gradesR_yes hok, hok, ← hout, hI.len]; exact RetSl.lit 0 hp rfl (by rw [ints_length, hI.len, Nat.mul_one]) (by unfold maxLen; omega))
  ·
    have hok : schoolB d xs pa le = true := by simpa using h1
    have hl8 := schoolB_len hok
    refine ct_skip ?_
    refine at_then ?_
    refine ct_seq ?_
    refine ct_reg ?_
    refine rl_make Try.underlying42 ze3 sz3 by3 rfl rfl (Nat.le_of_ble_eq_true rfl) (Nat.le_of_ble_eq_true rfl) rfl (fun N2 => ?_)
    refine rl_val gw_none (ov_assign rfl) rfl ?_
    refine rl_nil ?_
    refine at_then ?_
    refine ct_seq ?_
    refine ct_seq ?_
    refine ct_reg ?_
    refine rl_val gw_none (ov_field fo24_1 rfl) rfl ?_
    first | refine rl_val gw_none (ov_load 1 sc22 rfl rfl rfl) rfl ?_ | refine rl_val gw_none (ov_load 1 sc22 rfl rfl (by assumption)) rfl ?_
    refine rl_val gw_none (ov_len Try.underlying22 rfl) rfl ?_
    refine rl_val gw_none (ov_move rfl) rfl ?_
    refine rl_nil ?_
    refine at_then ?_
    refine ct_block ?_
    refine ct_loopR (ι := Nat × List Int) (fun p => [(14, .int .i64 p.1)]) [(2, _), (3, _), (4, _), (12, _), (13, _)] (fun p => (some N2, 3, ints p.2) :: _) (fun p => GradeI xs p.1 p.2) (fun p => xs.length - p.1) ((0, List.replicate 11 0)) (Sub.cons rfl (Sub.cons rfl (Sub.cons rfl (Sub.cons rfl (Sub.cons rfl Sub.nil))))) (fun _ hq => hq.cong (congrArg (fun x => (some N2, 3, x) :: _) (rep_ints 11))) (by (repeat' (first | exact Sub.nil | refine Sub.cons ?_ ?_)); all_goals (first | rfl | exact lkInt rfl (by omega))) (GradeI.zero _) (fun p hp0 => ?_)
    obtain ⟨k, out⟩ := p
    have hI : GradeI xs k out := hp0
    have hkl := hI.le
    dsimp only at *
    refine ct_seq ?_
    refine ct_reg ?_
    refine rl_val gw_none (ov_lss rfl rfl) rfl ?_
    refine rl_nil ?_
    refine at_then ?_
    refine ct_seq ?_
    first | refine ct_dec rfl (fun h2 => ?_) (fun h2 => ?_) | refine ct_ndec rfl (fun h2 => ?_) (fun h2 => ?_) | refine ct_eq rfl (fun h2 => ?_) (fun h2 => ?_) | refine ct_ne rfl (fun h2 => ?_) (fun h2 => ?_) | refine ct_not rfl (fun h2 => ?_) (fun h2 => ?_) | refine ct_cond rfl (fun h2 => ?_) (fun h2 => ?_)
    ·
      have hk2 : k < xs.length := by omega
      obtain ⟨b, o, rfl, hel⟩ := hsxs.elem encStudent_len (by omega) hk2
      have hx := getLt hk2
      have hsb := schoolB_at hok hx
      generalize xs[k] = x at *
      have hcx := hel k x hx
      obtain ⟨c0, c1, c2, c3, c4, _⟩ := hel k x hx
      obtain ⟨u, hv⟩ : ∃ u, out[x.grade.toNat]? = some u := ⟨_, getLt (show x.grade.toNat < out.length by rw [hI.len]; omega)⟩
      have hvb := hI.bd _ _ hv
      have hIn := hI.next hx hv
      have hol := hI.len
      refine ct_skip ?_
      refine at_then ?_
      refine ct_seq ?_
      refine ct_block ?_
      refine ct_seq ?_
      refine ct_reg ?_
      first | refine rl_val gw_none (ov_ix Try.underlying22 sz69 rfl rfl _ rfl (by omega)) rfl ?_ | refine rl_val gw_none (ov_ix Try.underlying22 sz69 rfl rfl (x.grade.toNat) (by omega) (by omega)) rfl ?_
      first | refine rl_val gw_none (ov_loadaw ag69 rfl rfl (by assumption)) rfl ?_ | refine rl_val gw_none (ov_loadall 0 ag69 rfl rfl rfl) rfl ?_ | refine rl_val gw_none (ov_loadall 1 ag69 rfl rfl rfl) rfl ?_ | refine rl_val gw_none (ov_loadall 2 ag69 rfl rfl rfl) rfl ?_ | refine rl_val gw_none (ov_loadall 3 ag69 rfl rfl rfl) rfl ?_
      refine rl_alloc ze69 rfl (fun N3 => ?_)
      refine rl_store [] sz69 rfl rfl rfl rfl rfl (Nat.le_of_ble_eq_true rfl) ?_
      refine rl_nil ?_
      refine at_then ?_
      refine ct_reg ?_
      refine rl_val gw_none (ov_move rfl) rfl ?_
      refine rl_val gw_none (ov_field fo69_1 rfl) rfl ?_
      first | refine rl_val gw_none (ov_load 0 sc3 rfl rfl rfl) rfl ?_ | refine rl_val gw_none (ov_load 0 sc3 rfl rfl (by assumption)) rfl ?_
      first | refine rl_val gw_none (ov_ix Try.underlying42 sz3 rfl rfl _ rfl (by omega)) rfl ?_ | refine rl_val gw_none (ov_ix Try.underlying42 sz3 rfl rfl (x.grade.toNat) (by omega) (by omega)) rfl ?_
      refine rl_val gw_none (ov_load 1 sc3 rfl rfl (intsAt hv)) rfl ?_
      refine rl_val gw_none (ov_add rfl rfl (by omega)) rfl ?_
      first | refine rl_val gw_none (ov_ix Try.underlying42 sz3 rfl rfl _ rfl (by omega)) rfl ?_ | refine rl_val gw_none (ov_ix Try.underlying42 sz3 rfl rfl (x.grade.toNat) (by omega) (by omega)) rfl ?_
      refine rl_store [_] sz3 rfl rfl rfl rfl rfl (by rw [ints_length]; omega) ?_
      refine rl_nil ?_
      refine at_block ?_
      refine at_then ?_
      refine ct_reg ?_
      refine rl_val gw_none (ov_add rfl rfl (by omega)) rfl ?_
      refine rl_val gw_none (ov_move rfl) rfl ?_
      refine rl_nil ?_
      exact at_backR (k + 1, out.set x.grade.toNat (u + 1)) hIn (by dsimp only at *; omega) (by (repeat' (first | exact Sub.nil | refine Sub.cons ?_ ?_)); all_goals (first | rfl | exact lkInt rfl (by omega))) (Sub.cons rfl (Sub.cons rfl (Sub.cons rfl (Sub.cons rfl (Sub.cons rfl Sub.nil))))) (fun _ hq => hq.drop.cong (congrArg (fun x => (some N2, 3, x) :: _) (intsSet _ (by omega))))
    ·
      have hke : k = xs.length := by omega
      refine ct_exit ?_
      refine at_then_exit ?_
      refine at_then_exit ?_
      refine at_block_hit ?_
      refine at_then ?_
      refine ct_seq ?_
      refine ct_reg ?_
      refine rl_val gw_none (ov_move rfl) rfl ?_
      refine rl_val gw_none (ov_assign rfl) rfl ?_
      refine rl_val gw_none (ov_assign rfl) rfl ?_
      refine rl_nil ?_
      refine at_then ?_
      refine ct_ret ?_
      refine at_ret2 Try.results29 (ro_tmp rfl) (ro_tmp rfl) (fun w1 hp => ?_)
      first | (rw [gradesR_no (show (schoolB d xs pa le) = false by simpa using h1), show (schoolB d xs pa le) = false by simpa using h1]; first | exact RetSl.nil hp.ext0 | exact RetSl.lit 0 hp rfl rfl (by decide)) | (have hout := hI.eq; rw [hke, List.take_length] at hout; rw [gradesR_yes hok, hok, ← hout, hI.len]; exact RetSl.lit 0 hp rfl (by rw [ints_length, hI.len, Nat.mul_one]) (by unfold maxLen; omega))

theorem sGradeCounts_c (d : Int) (xs : List Student) (pa : Int) (le : Int) (vxs : Value) (w : World) (zd : In64 d) (hGxs : ∀ y ∈ xs, GStudent y) (hsxs : SR w 5 vxs xs.length (flat encStudent xs)) (zpa : In64 pa) (zle : In64 le) : Calls Try.prog 28 ([.agg (List.toArray (α := Value) [.int .i64 d, vxs, .int .i64 pa, .int .i64 le])]).toArray w (fun e w' => RetSl 3 1 (ints (gradesR (schoolB d xs pa le) xs)) ((gradesR (schoolB d xs pa le) xs).length) (fun s => .tuple #[s, .bool (schoolB d xs pa le)]) w e w') := by
  obtain ⟨axs, capxs, rfl, hcapxs, hmaxxs⟩ := hsxs.slice
  have hlenxs := hsxs.len_le
  refine calls_ct Try.func28 Try.ntmps28 rfl rfl ?_
  refine ct_seq ?_
  refine ct_reg ?_
  refine rl_box rfl rfl (fun N1 => ?_)
  refine rl_val gw_none (ov_assign rfl) rfl ?_
  refine rl_val gw_none (ov_assign rfl) rfl ?_
  refine rl_nil ?_
  refine at_then ?_
  refine ct_seq ?_
  refine ct_seq ?_
  refine ct_reg ?_
  first | refine rl_val gw_none (ov_loadall 0 ag24 rfl rfl rfl) rfl ?_ | refine rl_val gw_none (ov_loada 0 ag24 rfl rfl rfl (by assumption)) rfl ?_
  refine rl_callv gw_none goes57 rfl (fun w1 hp => l25Good_c d xs pa le _ _ zd hGxs (hsxs.ext hp.ext0) zpa zle) rfl ?_
  refine rl_val gw_none (ov_not rfl) rfl ?_
  refine rl_nil ?_
  refine at_then ?_
  first | refine ct_dec rfl (fun h1 => ?_) (fun h1 => ?_) | refine ct_ndec rfl (fun h1 => ?_) (fun h1 => ?_) | refine ct_eq rfl (fun h1 => ?_) (fun h1 => ?_) | refine ct_ne rfl (fun h1 => ?_) (fun h1 => ?_) | refine ct_not rfl (fun h1 => ?_) (fun h1 => ?_) | refine ct_cond rfl (fun h1 => ?_) (fun h1 => ?_)
  ·
    refine ct_seq ?_
    refine ct_reg ?_
    refine rl_bslice Try.underlying42 ze3 sz3 rfl rfl rfl rfl rfl rfl (fun N2 => ?_)
    refine rl_val gw_none (ov_assign rfl) rfl ?_
    refine rl_val gw_none (ov_assign rfl) rfl ?_
    refine rl_nil ?_
    refine at_then ?_
    refine ct_ret ?_
    refine at_then_ret ?_
    refine at_ret2 Try.results28 (ro_tmp rfl) (ro_tmp rfl) (fun w1 hp => ?_)
    first | (rw [gradesR_no (show (schoolB d xs pa le) = false by simpa using h1), show (schoolB d xs pa le) = false by simpa using h1]; first | exact RetSl.nil hp.ext0 | exact RetSl.lit 0 hp rfl rfl (by decide)) | (have hout := hI.eq; rw [hke, List.take_length] at hout; rw [gradesR_yes hok, hok, ← hout, hI.len]; exact RetSl.lit 0 hp rfl (by rw [ints_length, hI.len, Nat.mul_one]) (by unfold maxLen; omega))
  ·
    have hok : schoolB d xs pa le = true := by simpa using h1
    have hl8 := schoolB_len hok
    refine ct_skip ?_
    refine at_then ?_
    refine ct_seq ?_
    refine ct_reg ?_
    refine rl_make Try.underlying42 ze3 sz3 by3 rfl rfl (Nat.le_of_ble_eq_true rfl) (Nat.le_of_ble_eq_true rfl) rfl (fun N3 => ?_)
    refine rl_val gw_none (ov_assign rfl) rfl ?_
    refine rl_nil ?_
    refine at_then ?_
    refine ct_seq ?_
    refine ct_seq ?_
    refine ct_reg ?_
    refine rl_val gw_none (ov_assign rfl) rfl ?_
    refine rl_nil ?_
    refine at_then ?_
    refine ct_block ?_
    refine ct_loopR (ι := Nat × List Int) (fun p => [(5, .int .i64 p.1)]) [(1, _), (2, _), (3, _), (4, _)] (fun p => (some N3, 3, ints p.2) :: _) (fun p => GradeI xs p.1 p.2) (fun p => xs.length - p.1) ((0, List.replicate 11 0)) (Sub.cons rfl (Sub.cons rfl (Sub.cons rfl (Sub.cons rfl Sub.nil)))) (fun _ hq => hq.cong (congrArg (fun x => (some N3, 3, x) :: _) (rep_ints 11))) (by (repeat' (first | exact Sub.nil | refine Sub.cons ?_ ?_)); all_goals (first | rfl | exact lkInt rfl (by omega))) (GradeI.zero _) (fun p hp0 => ?_)
    obtain ⟨k, out⟩ := p
    have hI : GradeI xs k out := hp0
    have hkl := hI.le
    dsimp only at *
    refine ct_seq ?_
    refine ct_seq ?_
    refine ct_reg ?_
    refine rl_val gw_none (ov_move rfl) rfl ?_
    refine rl_val gw_none (ov_field fo24_1 rfl) rfl ?_
    first | refine rl_val gw_none (ov_load 1 sc22 rfl rfl rfl) rfl ?_ | refine rl_val gw_none (ov_load 1 sc22 rfl rfl (by assumption)) rfl ?_
    refine rl_val gw_none (ov_len Try.underlying22 rfl) rfl ?_
    refine rl_val gw_none (ov_lss rfl rfl) rfl ?_
    refine rl_nil ?_
    refine at_then ?_
    first | refine ct_dec rfl (fun h2 => ?_) (fun h2 => ?_) | refine ct_ndec rfl (fun h2 => ?_) (fun h2 => ?_) | refine ct_eq rfl (fun h2 => ?_) (fun h2 => ?_) | refine ct_ne rfl (fun h2 => ?_) (fun h2 => ?_) | refine ct_not rfl (fun h2 => ?_) (fun h2 => ?_) | refine ct_cond rfl (fun h2 => ?_) (fun h2 => ?_)
    ·
      have hk2 : k < xs.length := by omega
      obtain ⟨b, o, rfl, hel⟩ := hsxs.elem encStudent_len (by omega) hk2
      have hx := getLt hk2
      have hsb := schoolB_at hok hx
      generalize xs[k] = x at *
      have hcx := hel k x hx
      obtain ⟨c0, c1, c2, c3, c4, _⟩ := hel k x hx
      obtain ⟨u, hv⟩ : ∃ u, out[x.grade.toNat]? = some u := ⟨_, getLt (show x.grade.toNat < out.length by rw [hI.len]; omega)⟩
      have hvb := hI.bd _ _ hv
      have hIn := hI.next hx hv
      have hol := hI.len
      refine ct_skip ?_
      refine at_then ?_
      refine ct_seq ?_
      refine ct_block ?_
      refine ct_seq ?_
      refine ct_reg ?_
      refine rl_val gw_none (ov_field fo24_1 rfl) rfl ?_
      first | refine rl_val gw_none (ov_load 1 sc22 rfl rfl rfl) rfl ?_ | refine rl_val gw_none (ov_load 1 sc22 rfl rfl (by assumption)) rfl ?_
      refine rl_val gw_none (ov_move rfl) rfl ?_
      first | refine rl_val gw_none (ov_ix Try.underlying22 sz69 rfl rfl _ rfl (by omega)) rfl ?_ | refine rl_val gw_none (ov_ix Try.underlying22 sz69 rfl rfl (x.grade.toNat) (by omega) (by omega)) rfl ?_
      refine rl_val gw_none (ov_field fo69_1 rfl) rfl ?_
      first | refine rl_val gw_none (ov_load 0 sc3 rfl rfl rfl) rfl ?_ | refine rl_val gw_none (ov_load 1 sc3 rfl rfl rfl) rfl ?_ | refine rl_val gw_none (ov_load 2 sc3 rfl rfl rfl) rfl ?_ | refine rl_val gw_none (ov_load 3 sc3 rfl rfl rfl) rfl ?_ | refine rl_val gw_none (ov_loadw sc3 rfl (by assumption)) rfl ?_ | refine rl_val gw_none (ov_load 0 sc3 rfl rfl (by assumption)) rfl ?_ | refine rl_val gw_none (ov_load 1 sc3 rfl rfl (by assumption)) rfl ?_ | refine rl_val gw_none (ov_load 2 sc3 rfl rfl (by assumption)) rfl ?_ | refine rl_val gw_none (ov_load 3 sc3 rfl rfl (by assumption)) rfl ?_
      refine rl_val gw_none (ov_assign rfl) rfl ?_
      refine rl_nil ?_
      refine at_then ?_
      refine ct_reg ?_
      refine rl_val gw_none (ov_move rfl) rfl ?_
      refine rl_val gw_none (ov_move rfl) rfl ?_
      refine rl_val gw_none (ov_move rfl) rfl ?_
      refine rl_val gw_none (ov_move rfl) rfl ?_
      first | refine rl_val gw_none (ov_ix Try.underlying42 sz3 rfl rfl _ rfl (by omega)) rfl ?_ | refine rl_val gw_none (ov_ix Try.underlying42 sz3 rfl rfl (x.grade.toNat) (by omega) (by omega)) rfl ?_
      refine rl_val gw_none (ov_load 0 sc3 rfl rfl (intsAt hv)) rfl ?_
      refine rl_val gw_none (ov_add rfl rfl (by omega)) rfl ?_
      first | refine rl_val gw_none (ov_ix Try.underlying42 sz3 rfl rfl _ rfl (by omega)) rfl ?_ | refine rl_val gw_none (ov_ix Try.underlying42 sz3 rfl rfl (x.grade.toNat) (by omega) (by omega)) rfl ?_
      refine rl_store [] sz3 rfl rfl rfl rfl rfl (by rw [ints_length]; omega) ?_
      refine rl_nil ?_
      refine at_block ?_
      refine at_then ?_
      refine ct_reg ?_
      refine rl_val gw_none (ov_move rfl) rfl ?_
      refine rl_val gw_none (ov_add rfl rfl (by omega)) rfl ?_
      refine rl_val gw_none (ov_assign rfl) rfl ?_
      refine rl_nil ?_
      exact at_backR (k + 1, out.set x.grade.toNat (u + 1)) hIn (by dsimp only at *; omega) (by (repeat' (first | exact Sub.nil | refine Sub.cons ?_ ?_)); all_goals (first | rfl | exact lkInt rfl (by omega))) (Sub.cons rfl (Sub.cons rfl (Sub.cons rfl (Sub.cons rfl Sub.nil)))) (fun _ hq => hq.cong (congrArg (fun x => (some N3, 3, x) :: _) (intsSet _ (by omega))))
    ·
      have hke : k = xs.length := by omega
      refine ct_exit ?_
      refine at_then_exit ?_
      refine at_then_exit ?_
      refine at_block_hit ?_
      refine at_then ?_
      refine ct_seq ?_
      refine ct_reg ?_
      refine rl_val gw_none (ov_move rfl) rfl ?_
      refine rl_val gw_none (ov_assign rfl) rfl ?_
      refine rl_val gw_none (ov_assign rfl) rfl ?_
      refine rl_nil ?_
      refine at_then ?_
      refine ct_ret ?_
      refine at_ret2 Try.results28 (ro_tmp rfl) (ro_tmp rfl) (fun w1 hp => ?_)
      first | (rw [gradesR_no (show (schoolB d xs pa le) = false by simpa using h1), show (schoolB d xs pa le) = false by simpa using h1]; first | exact RetSl.nil hp.ext0 | exact RetSl.lit 0 hp rfl rfl (by decide)) | (have hout := hI.eq; rw [hke, List.take_length] at hout; rw [gradesR_yes hok, hok, ← hout, hI.len]; exact RetSl.lit 0 hp rfl (by rw [ints_length, hI.len, Nat.mul_one]) (by unfold maxLen; omega))
end Go.Proofs.Ytacaoicpmhdioaa
