import Derived.Test.YtfelindekikaeaaTc
import Derived.Test.YtfelindekikaeaaTd
import Derived.Test.YtfelindekikaeaaIc
import Derived.KernelRfl
set_option linter.unusedVariables false
set_option linter.unusedSimpArgs false
namespace Go.Proofs.Ytfelindekikaeaa
open Go Go.RowKit K
theorem iCaseLoad_c (xs : List Exhibit) (vxs : Value) (w : World) (hGxs : ∀ y ∈ xs, GExhibit y) (hsxs : SR w 7 vxs xs.length (flat encExhibit xs)) : Calls Try.prog 42 ([vxs]).toArray w (fun e w' => RetSl 3 1 (ints (clR xs)) ((clR xs).length) (fun s => .tuple #[s, .bool (exhsB xs)]) w e w') := by
  obtain ⟨axs, capxs, rfl, hcapxs, hmaxxs⟩ := hsxs.slice
  have hlenxs := hsxs.len_le
  refine calls_ct Try.func42 Try.ntmps42 rfl rfl ?_
  refine ct_seq ?_
  refine ct_reg ?_
  refine rl_val gw_none (ov_assign rfl) rfl ?_
  refine rl_val gw_none (ov_assign rfl) rfl ?_
  refine rl_nil ?_
  refine at_then ?_
  refine ct_seq ?_
  refine ct_seq ?_
  refine ct_reg ?_
  refine rl_val gw_none (ov_move rfl) rfl ?_
  refine rl_callv gw_none goes43 rfl (fun w1 hp => iAreExhibits_c xs _ _ hGxs (hsxs.ext hp.ext0)) rfl ?_
  refine rl_val gw_none (ov_not rfl) rfl ?_
  refine rl_nil ?_
  refine at_then ?_
  first | refine ct_dec rfl (fun h1 => ?_) (fun h1 => ?_) | refine ct_ndec rfl (fun h1 => ?_) (fun h1 => ?_) | refine ct_eq rfl (fun h1 => ?_) (fun h1 => ?_) | refine ct_ne rfl (fun h1 => ?_) (fun h1 => ?_) | refine ct_not rfl (fun h1 => ?_) (fun h1 => ?_) | refine ct_cond rfl (fun h1 => ?_) (fun h1 => ?_)
  ·
    refine ct_seq ?_
    refine ct_reg ?_
    refine rl_val gw_none (ov_assign rfl) rfl ?_
    refine rl_val gw_none (ov_assign rfl) rfl ?_
    refine rl_nil ?_
    refine at_then ?_
    refine ct_ret ?_
    refine at_then_ret ?_
    refine at_ret2 Try.results42 (ro_tmp rfl) (ro_tmp rfl) (fun w1 hp => ?_)
    first | (rw [clR_yes hok, hok, loadsE_len]; exact RetSl.own 999 hp rfl hsld) | (have hb : exhsB xs = false := (by simpa using h1); rw [clR_no hb, hb]; first | exact RetSl.nil hp.ext0 | exact RetSl.lit 0 hp rfl rfl (by decide))
  ·
    have hok : exhsB xs = true := by simpa using h1
    have h10 := exhsB_len hok
    have hol : (ageL xs).length = xs.length := ordG_len xs
    refine ct_skip ?_
    refine at_then ?_
    refine ct_seq ?_
    refine ct_reg ?_
    refine rl_val gw_none (ov_move rfl) rfl ?_
    refine rl_callsl (ι := Nat × List Value) (fun i bo => sv bo 9 i.1) (fun i => ints (loadsE xs) ++ i.2) (fun i bo => Sl 1 bo 9 i.1 (ints (loadsE xs)) i.2) goes75 rfl (fun w1 hp => caseLoad_c xs _ _ hGxs (hsxs.ext hp.ext0) (exhsB_mem hok) h10) rfl (fun ild bold hsld => ?_)
    refine rl_val gw_none (ov_assign rfl) rfl ?_
    refine rl_val gw_none (ov_assign rfl) rfl ?_
    refine rl_nil ?_
    refine at_then ?_
    refine ct_ret ?_
    refine at_ret2 Try.results42 (ro_tmp rfl) (ro_tmp rfl) (fun w1 hp => ?_)
    first | (rw [clR_yes hok, hok, loadsE_len]; exact RetSl.own 0 hp rfl hsld) | (have hb : exhsB xs = false := (by simpa using h1); rw [clR_no hb, hb]; first | exact RetSl.nil hp.ext0 | exact RetSl.lit 0 hp rfl rfl (by decide))

theorem sCaseLoad_c (xs : List Exhibit) (vxs : Value) (w : World) (hGxs : ∀ y ∈ xs, GExhibit y) (hsxs : SR w 7 vxs xs.length (flat encExhibit xs)) : Calls Try.prog 47 ([vxs]).toArray w (fun e w' => RetSl 3 1 (ints (clR xs)) ((clR xs).length) (fun s => .tuple #[s, .bool (exhsB xs)]) w e w') := by
  obtain ⟨axs, capxs, rfl, hcapxs, hmaxxs⟩ := hsxs.slice
  have hlenxs := hsxs.len_le
  refine calls_ct Try.func47 Try.ntmps47 rfl rfl ?_
  refine ct_seq ?_
  refine ct_reg ?_
  refine rl_val gw_none (ov_assign rfl) rfl ?_
  refine rl_val gw_none (ov_assign rfl) rfl ?_
  refine rl_nil ?_
  refine at_then ?_
  refine ct_seq ?_
  refine ct_reg ?_
  refine rl_bslice Try.underlying24 ze3 sz3 rfl rfl rfl rfl rfl rfl (fun N1 => ?_)
  refine rl_val gw_none (ov_assign rfl) rfl ?_
  refine rl_nil ?_
  refine at_then ?_
  refine ct_seq ?_
  refine ct_seq ?_
  refine ct_reg ?_
  refine rl_val gw_none (ov_move rfl) rfl ?_
  refine rl_callv gw_none goes60 rfl (fun w1 hp => l22Good_c xs _ _ hGxs (hsxs.ext hp.ext0)) rfl ?_
  refine rl_val gw_none (ov_not rfl) rfl ?_
  refine rl_nil ?_
  refine at_then ?_
  first | refine ct_dec rfl (fun h1 => ?_) (fun h1 => ?_) | refine ct_ndec rfl (fun h1 => ?_) (fun h1 => ?_) | refine ct_eq rfl (fun h1 => ?_) (fun h1 => ?_) | refine ct_ne rfl (fun h1 => ?_) (fun h1 => ?_) | refine ct_not rfl (fun h1 => ?_) (fun h1 => ?_) | refine ct_cond rfl (fun h1 => ?_) (fun h1 => ?_)
  ·
    refine ct_seq ?_
    refine ct_reg ?_
    refine rl_val gw_none (ov_move rfl) rfl ?_
    refine rl_val gw_none (ov_assign rfl) rfl ?_
    refine rl_val gw_none (ov_assign rfl) rfl ?_
    refine rl_nil ?_
    refine at_then ?_
    refine ct_ret ?_
    refine at_then_ret ?_
    refine at_ret2 Try.results47 (ro_tmp rfl) (ro_tmp rfl) (fun w1 hp => ?_)
    first | (rw [clR_yes hok, hok, show loadsE xs = ((loadsE xs).take 9) by rw [List.take_of_length_le (by rw [loadsE_len]; exact Nat.le_refl _)]]; exact RetSl.own 0 hp rfl hsl) | (have hb : exhsB xs = false := (by simpa using h1); rw [clR_no hb, hb]; first | exact RetSl.nil hp.ext0 | exact RetSl.lit 0 hp rfl rfl (by decide))
  ·
    have hok : exhsB xs = true := by simpa using h1
    have h10 := exhsB_len hok
    have hol : (ageL xs).length = xs.length := ordG_len xs
    refine ct_skip ?_
    refine at_then ?_
    refine ct_seq ?_
    refine ct_seq ?_
    refine ct_reg ?_
    refine rl_val gw_none (ov_assign rfl) rfl ?_
    refine rl_nil ?_
    refine at_then ?_
    refine ct_block ?_
    refine ct_loopR (ι := Nat × Option Nat × Nat × List Value) (fun p0 => [(4, sv p0.2.1 ((loadsE xs).take p0.1).length p0.2.2.1), (5, .int .i64 ((p0.1 : Int) + 1))]) [(0, _), (2, _), (3, _)] (fun p0 => [(p0.2.1, 3, ints ((loadsE xs).take p0.1) ++ p0.2.2.2)]) (fun p0 => p0.1 ≤ 9 ∧ Sl 1 p0.2.1 ((loadsE xs).take p0.1).length p0.2.2.1 (ints ((loadsE xs).take p0.1)) p0.2.2.2) (fun p0 => 9 - p0.1) ((0, some N1, 0, [])) (Sub.cons rfl (Sub.cons rfl (Sub.cons rfl Sub.nil))) (fun _ hp => (Hp.sub (Hp.pull hp 0 rfl) (List.sublist_append_left [_] _))) (by (repeat' (first | exact Sub.nil | refine Sub.cons ?_ ?_)); all_goals (first | rfl | exact lkInt rfl (by omega))) ⟨Nat.zero_le _, Sl.lit rfl (Nat.zero_le _)⟩ (fun p0 hp0 => ?_)
    obtain ⟨k, bo, cap, pad⟩ := p0
    obtain ⟨hk, hsl⟩ := hp0
    dsimp only at hk hsl
    try dsimp only
    have hlk : ((loadsE xs).take k).length ≤ 9 := by rw [List.length_take, loadsE_len]; omega
    refine ct_seq ?_
    refine ct_seq ?_
    refine ct_reg ?_
    refine rl_val gw_none (ov_move rfl) rfl ?_
    refine rl_val gw_none (ov_leq rfl rfl) rfl ?_
    refine rl_nil ?_
    refine at_then ?_
    first | refine ct_dec rfl (fun h2 => ?_) (fun h2 => ?_) | refine ct_ndec rfl (fun h2 => ?_) (fun h2 => ?_) | refine ct_eq rfl (fun h2 => ?_) (fun h2 => ?_) | refine ct_ne rfl (fun h2 => ?_) (fun h2 => ?_) | refine ct_not rfl (fun h2 => ?_) (fun h2 => ?_) | refine ct_cond rfl (fun h2 => ?_) (fun h2 => ?_)
    ·
      refine ct_skip ?_
      refine at_then ?_
      refine ct_seq ?_
      refine ct_block ?_
      refine ct_reg ?_
      refine rl_val gw_none (ov_move rfl) rfl ?_
      refine rl_val gw_none (ov_move rfl) rfl ?_
      refine rl_val gw_none (ov_move rfl) rfl ?_
      refine rl_callx (ι := Int) (fun r => .int .i64 r) (fun r => LoadI xs ((k : Int) + 1) xs.length r) gw_none goes78 rfl (fun w1 hp => l22Load_c xs _ ((k : Int) + 1) _ hGxs (hsxs.ext hp.ext0)) rfl (fun r hr => ?_)
      obtain rfl : r = loadE xs ((k : Int) + 1) := by have h9 := hr h10 (exhsB_mem hok); rwa [List.take_length] at h9
      refine rl_bslice Try.underlying24 ze3 sz3 rfl rfl rfl rfl rfl rfl (fun N2 => ?_)
      refine rl_appT (ints) (ints_append) [_] (acc := ((loadsE xs).take k)) Try.underlying24 ze3 sz3 rfl rfl by3 rfl rfl rfl hsl ([loadE xs ((k : Int) + 1)]) rfl (fun w1 hp => hp.sr1 0 rfl rfl (by decide)) (ints_one _) (by unfold maxLen; omega) (by omega) rfl (fun boq1 capq1 padq1 hsq1 => ?_)
      refine rl_val gw_none (ov_assign rfl) rfl ?_
      refine rl_nil ?_
      refine at_block ?_
      refine at_then ?_
      refine ct_reg ?_
      refine rl_val gw_none (ov_move rfl) rfl ?_
      refine rl_val gw_none (ov_add rfl rfl (by omega)) rfl ?_
      refine rl_val gw_none (ov_assign rfl) rfl ?_
      refine rl_nil ?_
      have hts := loadsE_take xs k (by omega)
      exact at_backR (k + 1, boq1, capq1, padq1) ⟨by dsimp only; omega, by dsimp only; rw [hts]; exact hsq1⟩ (by dsimp only; omega) (by dsimp only; rw [hts]; (repeat' (first | exact Sub.nil | refine Sub.cons ?_ ?_)); all_goals (first | rfl | exact lkInt rfl (by omega))) (Sub.cons rfl (Sub.cons rfl (Sub.cons rfl Sub.nil))) (fun _ hp => ((Hp.sub (Hp.pull hp 1 rfl) (List.sublist_append_left [_] _))).cong (by dsimp only; rw [hts]; try rfl))
    ·
      have hke : k = 9 := by omega
      subst hke
      refine ct_exit ?_
      refine at_then_exit ?_
      refine at_then_exit ?_
      refine at_block_hit ?_
      refine at_then ?_
      refine ct_seq ?_
      refine ct_reg ?_
      refine rl_val gw_none (ov_move rfl) rfl ?_
      refine rl_val gw_none (ov_assign rfl) rfl ?_
      refine rl_val gw_none (ov_assign rfl) rfl ?_
      refine rl_nil ?_
      refine at_then ?_
      refine ct_ret ?_
      refine at_ret2 Try.results47 (ro_tmp rfl) (ro_tmp rfl) (fun w1 hp => ?_)
      first | (rw [clR_yes hok, hok, show loadsE xs = ((loadsE xs).take 9) by rw [List.take_of_length_le (by rw [loadsE_len]; exact Nat.le_refl _)]]; exact RetSl.own 0 hp rfl hsl) | (have hb : exhsB xs = false := (by simpa using h1); rw [clR_no hb, hb]; first | exact RetSl.nil hp.ext0 | exact RetSl.lit 0 hp rfl rfl (by decide))
end Go.Proofs.Ytfelindekikaeaa
