import Derived.Test.YtaajkamfeaafpaaTg
import Derived.Test.YtaajkamfeaafpaaTj
import Derived.KernelRfl
set_option linter.unusedVariables false
set_option linter.unusedSimpArgs false
namespace Go.Proofs.Ytaajkamfeaafpaa
open Go Go.RowKit K
theorem iBeadsOfWood_c (ws : List Wood) (xs : List Repair) (vws vxs : Value) (w : World) (hGws : ∀ y ∈ ws, GWood y) (hsws : SR w 3 vws ws.length (flat encWood ws)) (hGxs : ∀ y ∈ xs, GRepair y) (hsxs : SR w 5 vxs xs.length (flat encRepair xs)) : Calls Try.prog 48 ([vws, vxs]).toArray w (fun e w' => RetSl 3 1 (ints (beadsRes ws xs)) (beadsRes ws xs).length (fun s => .tuple #[s, .bool (repairsB ws xs)]) w e w') := by
  obtain ⟨a, cap, rfl, hcap, hmax⟩ := hsxs.slice
  have hlen := hsxs.len_le
  obtain ⟨aw, capw, rfl, hcapw, hmaxw⟩ := hsws.slice
  have hlenw := hsws.len_le
  refine calls_ct Try.func48 Try.ntmps48 rfl rfl ?_
  refine ct_seq ?_
  refine ct_reg ?_
  refine rl_val gw_none (ov_assign rfl) rfl ?_
  refine rl_val gw_none (ov_assign rfl) rfl ?_
  refine rl_nil ?_
  refine at_then ?_
  refine ct_seq ?_
  refine ct_seq ?_
  refine ct_reg ?_
  refine rl_val gw_none (ov_move rfl) rfl ?_
  refine rl_val gw_none (ov_move rfl) rfl ?_
  refine rl_callv gw_none goes39 rfl (fun w1 hp => iAreRepairs_c ws xs _ _ _ hGws (hsws.ext hp.ext0) hGxs (hsxs.ext hp.ext0)) rfl ?_
  refine rl_val gw_none (ov_not rfl) rfl ?_
  refine rl_nil ?_
  refine at_then ?_
  first | refine ct_dec rfl (fun h1 => ?_) (fun h1 => ?_) | refine ct_ndec rfl (fun h1 => ?_) (fun h1 => ?_) | refine ct_eq rfl (fun h1 => ?_) (fun h1 => ?_) | refine ct_ne rfl (fun h1 => ?_) (fun h1 => ?_) | refine ct_not rfl (fun h1 => ?_) (fun h1 => ?_) | refine ct_cond rfl (fun h1 => ?_) (fun h1 => ?_)
  ·
    refine ct_seq ?_
    refine ct_reg ?_
    refine rl_val gw_none (ov_assign rfl) rfl ?_
    refine rl_val gw_none (ov_assign rfl) rfl ?_
    refine rl_nil ?_
    refine at_then ?_
    refine ct_ret ?_
    refine at_then_ret ?_
    refine at_ret2 Try.results48 (ro_tmp rfl) (ro_tmp rfl) (fun w1 hp => ?_)
    first | (rw [beadsRes_no (ws := ws) (xs := xs) (by simpa using h1), show repairsB ws xs = false by simpa using h1]; first | exact RetSl.nil hp.ext0 | exact RetSl.lit 0 hp rfl rfl (by decide)) | (have hout := hI.eq; rw [hke, List.take_length] at hout; rw [beadsRes_yes hok, hok, ← hout, hI.len]; exact RetSl.lit 0 hp rfl (by rw [ints_length, hI.len, Nat.mul_one]) (by unfold maxLen; omega))
  ·
    have hok : repairsB ws xs = true := by simpa using h1
    have hw8 := woodsB_len (repairs_woods hok).1
    refine ct_skip ?_
    refine at_then ?_
    refine ct_seq ?_
    refine ct_reg ?_
    refine rl_val gw_none (ov_move rfl) rfl ?_
    refine rl_val gw_none (ov_len Try.underlying25 rfl) rfl ?_
    refine rl_make Try.underlying34 ze3 sz3 by3 rfl rfl (by omega) (by unfold maxLen; omega) rfl (fun N1 => ?_)
    refine rl_val gw_none (ov_assign rfl) rfl ?_
    refine rl_nil ?_
    refine at_then ?_
    refine ct_seq ?_
    refine ct_seq ?_
    refine ct_reg ?_
    refine rl_val gw_none (ov_move rfl) rfl ?_
    refine rl_val gw_none (ov_len Try.underlying37 rfl) rfl ?_
    refine rl_val gw_none (ov_move rfl) rfl ?_
    refine rl_nil ?_
    refine at_then ?_
    refine ct_block ?_
    refine ct_loopR (ι := Nat × List Int) (fun p => [(18, .int .i64 p.1)]) [(4, _), (5, _), (6, _), (16, _), (17, _)] (fun p => [(some N1, 3, ints p.2)]) (fun p => BeadI ws.length xs p.1 p.2) (fun p => xs.length - p.1) ((0, List.replicate ws.length 0)) (Sub.cons rfl (Sub.cons rfl (Sub.cons rfl (Sub.cons rfl (Sub.cons rfl Sub.nil))))) (fun _ hq => hq.cong (by rw [rep_ints])) (by (repeat' (first | exact Sub.nil | refine Sub.cons ?_ ?_)); all_goals (first | rfl | exact lkInt rfl (by omega))) (BeadI.zero _ _) (fun p hp0 => ?_)
    obtain ⟨k, out⟩ := p
    have hI : BeadI ws.length xs k out := hp0
    have hkl := hI.le
    dsimp only at *
    refine ct_seq ?_
    refine ct_reg ?_
    refine rl_val gw_none (ov_lss rfl rfl) rfl ?_
    refine rl_nil ?_
    refine at_then ?_
    refine ct_seq ?_
    first | refine ct_dec rfl (fun h2 => ?_) (fun h2 => ?_) | refine ct_ndec rfl (fun h2 => ?_) (fun h2 => ?_) | refine ct_eq rfl (fun h2 => ?_) (fun h2 => ?_) | refine ct_ne rfl (fun h2 => ?_) (fun h2 => ?_) | refine ct_not rfl (fun h2 => ?_) (fun h2 => ?_) | refine ct_cond rfl (fun h2 => ?_) (fun h2 => ?_)
    ·
      have hk2 : k < xs.length := by omega
      obtain ⟨b, o, rfl, hel⟩ := hsxs.elem encRepair_len (by omega) hk2
      have hx := getLt hk2
      have hrb := repairB_at hok hx
      generalize xs[k] = r at *
      have hcx := hel k r hx
      obtain ⟨c0, c1, c2, c3, c4, _⟩ := hel k r hx
      obtain ⟨x, hwx, hw0, hlt, hbe, _⟩ := repair_ok (repairs_woods hok).1 hrb
      obtain ⟨u, hv⟩ : ∃ u, out[r.wood.toNat]? = some u := ⟨_, getLt (show r.wood.toNat < out.length by rw [hI.len]; exact hlt)⟩
      have hvb := hI.bd _ _ hv
      have hIn := hI.next hx hv hbe
      have hol := hI.len
      have hl10 := (repairs_woods hok).2
      refine ct_skip ?_
      refine at_then ?_
      refine ct_seq ?_
      refine ct_block ?_
      refine ct_seq ?_
      refine ct_reg ?_
      first | refine rl_val gw_none (ov_ix Try.underlying37 sz53 rfl rfl _ rfl (by omega)) rfl ?_ | refine rl_val gw_none (ov_ix Try.underlying37 sz53 rfl rfl (r.wood.toNat) (by omega) (by omega)) rfl ?_
      first | refine rl_val gw_none (ov_loadaw ag53 rfl rfl (by assumption)) rfl ?_ | refine rl_val gw_none (ov_loadall 0 ag53 rfl rfl rfl) rfl ?_ | refine rl_val gw_none (ov_loadall 1 ag53 rfl rfl rfl) rfl ?_ | refine rl_val gw_none (ov_loadall 2 ag53 rfl rfl rfl) rfl ?_ | refine rl_val gw_none (ov_loadall 3 ag53 rfl rfl rfl) rfl ?_
      refine rl_alloc ze53 rfl (fun N2 => ?_)
      refine rl_store ([]) sz53 rfl rfl rfl rfl rfl (by simp) ?_
      refine rl_nil ?_
      refine at_then ?_
      refine ct_dr 9 (by kernel_rfl) (by kernel_rfl) ?_
      refine ql_val gw_none (ov_move rfl) rfl ?_
      refine ql_val gw_none (ov_field fo53_1 rfl) rfl ?_
      first | refine ql_val gw_none (ov_load 0 sc3 rfl rfl rfl) rfl ?_ | refine ql_val gw_none (ov_load 0 sc3 rfl rfl (by assumption)) rfl ?_
      first | refine ql_val gw_none (ov_ix Try.underlying34 sz3 rfl rfl _ rfl (by omega)) rfl ?_ | refine ql_val gw_none (ov_ix Try.underlying34 sz3 rfl rfl (r.wood.toNat) (by omega) (by omega)) rfl ?_
      refine ql_val gw_none (ov_load 1 sc3 rfl rfl (intsAt hv)) rfl ?_
      refine ql_val gw_none (ov_field fo53_2 rfl) rfl ?_
      first | refine ql_val gw_none (ov_load 0 sc3 rfl rfl rfl) rfl ?_ | refine ql_val gw_none (ov_load 0 sc3 rfl rfl (by assumption)) rfl ?_
      refine ql_val gw_none (ov_add rfl rfl (by omega)) rfl ?_
      first | refine ql_val gw_none (ov_ix Try.underlying34 sz3 rfl rfl _ rfl (by omega)) rfl ?_ | refine ql_val gw_none (ov_ix Try.underlying34 sz3 rfl rfl (r.wood.toNat) (by omega) (by omega)) rfl ?_
      refine ql_nil ?_
      refine rl_store ([_]) sz3 rfl rfl rfl rfl rfl (by rw [ints_length]; omega) ?_
      refine rl_nil ?_
      refine at_block ?_
      refine at_then ?_
      refine ct_reg ?_
      refine rl_val gw_none (ov_add rfl rfl (by omega)) rfl ?_
      refine rl_val gw_none (ov_move rfl) rfl ?_
      refine rl_nil ?_
      exact at_backR (k + 1, out.set r.wood.toNat (u + r.beads)) hIn (by dsimp only at *; omega) (by (repeat' (first | exact Sub.nil | refine Sub.cons ?_ ?_)); all_goals (first | rfl | exact lkInt rfl (by omega))) (Sub.cons rfl (Sub.cons rfl (Sub.cons rfl (Sub.cons rfl (Sub.cons rfl Sub.nil))))) (fun _ hq => hq.drop.cong (congrArg (fun x => [(some N1, 3, x)]) (intsSet _ (by omega))))
    ·
      have hke : k = xs.length := by omega
      refine ct_exit ?_
      refine at_then_exit ?_
      refine at_then_exit ?_
      refine at_block_hit ?_
      refine at_then ?_
      refine ct_seq ?_
      refine ct_reg ?_
      refine rl_val gw_none (ov_move rfl) rfl ?_
      refine rl_val gw_none (ov_assign rfl) rfl ?_
      refine rl_val gw_none (ov_assign rfl) rfl ?_
      refine rl_nil ?_
      refine at_then ?_
      refine ct_ret ?_
      refine at_ret2 Try.results48 (ro_tmp rfl) (ro_tmp rfl) (fun w1 hp => ?_)
      first | (rw [beadsRes_no (ws := ws) (xs := xs) (by simpa using h1), show repairsB ws xs = false by simpa using h1]; first | exact RetSl.nil hp.ext0 | exact RetSl.lit 0 hp rfl rfl (by decide)) | (have hout := hI.eq; rw [hke, List.take_length] at hout; rw [beadsRes_yes hok, hok, ← hout, hI.len]; exact RetSl.lit 0 hp rfl (by rw [ints_length, hI.len, Nat.mul_one]) (by unfold maxLen; omega))
end Go.Proofs.Ytaajkamfeaafpaa
