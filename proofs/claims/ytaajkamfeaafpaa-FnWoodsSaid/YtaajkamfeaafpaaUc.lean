import Derived.Test.YtaajkamfeaafpaaTg
import Derived.Test.YtaajkamfeaafpaaTh
import Derived.Test.YtaajkamfeaafpaaRc
import Derived.Test.YtaajkamfeaafpaaUa
import Derived.Test.YtaajkamfeaafpaaUb
import Derived.KernelRfl
set_option linter.unusedVariables false
set_option linter.unusedSimpArgs false
namespace Go.Proofs.Ytaajkamfeaafpaa
open Go Go.RowKit K
theorem iWorkOrder_c (ws : List Wood) (xs : List Repair) (vws : Value) (vxs : Value) (w : World) (hGws : ∀ y ∈ ws, GWood y) (hsws : SR w 3 vws ws.length (flat encWood ws)) (hGxs : ∀ y ∈ xs, GRepair y) (hsxs : SR w 5 vxs xs.length (flat encRepair xs)) : Calls Try.prog 37 ([vws, vxs]).toArray w (fun e w' => RetSl 3 1 (ints (woR ws xs)) ((woR ws xs).length) (fun s => .tuple #[s, .bool (repairsB ws xs)]) w e w') := by
  obtain ⟨aws, capws, rfl, hcapws, hmaxws⟩ := hsws.slice
  have hlenws := hsws.len_le
  obtain ⟨axs, capxs, rfl, hcapxs, hmaxxs⟩ := hsxs.slice
  have hlenxs := hsxs.len_le
  refine calls_ct Try.func37 Try.ntmps37 rfl rfl ?_
  refine ct_seq ?_
  refine ct_reg ?_
  refine rl_val gw_none (ov_assign rfl) rfl ?_
  refine rl_val gw_none (ov_assign rfl) rfl ?_
  refine rl_nil ?_
  refine at_then ?_
  refine ct_seq ?_
  refine ct_seq ?_
  refine ct_reg ?_
  refine rl_val gw_none (ov_move rfl) rfl ?_
  refine rl_val gw_none (ov_move rfl) rfl ?_
  refine rl_callv gw_none goes39 rfl (fun w1 hp => iAreRepairs_c ws xs _ _ _ hGws (hsws.ext hp.ext0) hGxs (hsxs.ext hp.ext0)) rfl ?_
  refine rl_val gw_none (ov_not rfl) rfl ?_
  refine rl_nil ?_
  refine at_then ?_
  first | refine ct_dec rfl (fun h1 => ?_) (fun h1 => ?_) | refine ct_ndec rfl (fun h1 => ?_) (fun h1 => ?_) | refine ct_eq rfl (fun h1 => ?_) (fun h1 => ?_) | refine ct_ne rfl (fun h1 => ?_) (fun h1 => ?_) | refine ct_not rfl (fun h1 => ?_) (fun h1 => ?_) | refine ct_cond rfl (fun h1 => ?_) (fun h1 => ?_)
  ·
    refine ct_seq ?_
    refine ct_reg ?_
    refine rl_val gw_none (ov_assign rfl) rfl ?_
    refine rl_val gw_none (ov_assign rfl) rfl ?_
    refine rl_nil ?_
    refine at_then ?_
    refine ct_ret ?_
    refine at_then_ret ?_
    refine at_ret2 Try.results37 (ro_tmp rfl) (ro_tmp rfl) (fun w1 hp => ?_)
    first | (rw [show woR ws xs = acc from (selR_yes hok).trans hacc.symm, hok]; exact RetSl.own 999 hp rfl hsl) | (have hb : repairsB ws xs = false := (by simpa using h1); rw [show woR ws xs = [] from selR_no hb, hb]; first | exact RetSl.nil hp.ext0 | exact RetSl.lit 0 hp rfl rfl (by decide))
  ·
    have hok : repairsB ws xs = true := by simpa using h1
    have hw := (repairs_woods hok).1
    have hx10 := (repairs_woods hok).2
    have hol := ordL_len ws xs
    refine ct_skip ?_
    refine at_then ?_
    refine ct_seq ?_
    refine ct_reg ?_
    refine rl_val gw_none (ov_assign rfl) rfl ?_
    refine rl_nil ?_
    refine at_then ?_
    refine ct_seq ?_
    refine ct_seq ?_
    refine ct_reg ?_
    refine rl_val gw_none (ov_move rfl) rfl ?_
    refine rl_val gw_none (ov_move rfl) rfl ?_
    refine rl_callsl (ι := Nat × List Value) (fun i bo => sv bo (ordL ws xs).length i.1) (fun i => flat encRepair (ordL ws xs) ++ i.2) (fun i bo => Sl 5 bo (ordL ws xs).length i.1 (flat encRepair (ordL ws xs)) i.2) goes70 rfl (fun w1 hp => workOrder_c ws xs _ _ _ hGws (hsws.ext hp.ext0) hGxs (hsxs.ext hp.ext0) hok) rfl (fun iwo bowo hswo => ?_)
    refine rl_val gw_none (ov_len Try.underlying37 rfl) rfl ?_
    refine rl_val gw_none (ov_move rfl) rfl ?_
    refine rl_nil ?_
    refine at_then ?_
    refine ct_block ?_
    refine ct_loopR (ι := Nat × Option Nat × Nat × List Value × List Int) (fun p0 => [(6, sv p0.2.1 p0.2.2.2.2.length p0.2.2.1), (17, .int .i64 p0.1)]) [(4, _), (5, _), (15, _), (16, _)] (fun p0 => (p0.2.1, 3, ints p0.2.2.2.2 ++ p0.2.2.2.1) :: _) (fun p0 => p0.1 ≤ (ordL ws xs).length ∧ p0.2.2.2.2 = selL (fun _ : Repair => true) (fun x => (x : Repair).frame) (ordL ws xs) p0.1 ∧ Sl 1 p0.2.1 p0.2.2.2.2.length p0.2.2.1 (ints p0.2.2.2.2) p0.2.2.2.1) (fun p0 => (ordL ws xs).length - p0.1) ((0, none, 0, [], [])) (Sub.cons rfl (Sub.cons rfl (Sub.cons rfl (Sub.cons rfl Sub.nil)))) (fun _ hq => hq.nil 3) (by (repeat' (first | exact Sub.nil | refine Sub.cons ?_ ?_)); all_goals (first | rfl | exact lkInt rfl (by omega))) ⟨Nat.zero_le _, selL_zero _ _ _, Sl.nil0 _⟩ (fun p0 hp0 => ?_)
    obtain ⟨k, bo, cap, pad, acc⟩ := p0
    obtain ⟨hk, hacc, hsl⟩ := hp0
    dsimp only at hk hacc hsl
    have hal := selL_len hacc
    refine ct_seq ?_
    refine ct_reg ?_
    refine rl_val gw_none (ov_lss rfl rfl) rfl ?_
    refine rl_nil ?_
    refine at_then ?_
    refine ct_seq ?_
    first | refine ct_dec rfl (fun h2 => ?_) (fun h2 => ?_) | refine ct_ndec rfl (fun h2 => ?_) (fun h2 => ?_) | refine ct_eq rfl (fun h2 => ?_) (fun h2 => ?_) | refine ct_ne rfl (fun h2 => ?_) (fun h2 => ?_) | refine ct_not rfl (fun h2 => ?_) (fun h2 => ?_) | refine ct_cond rfl (fun h2 => ?_) (fun h2 => ?_)
    ·
      have hk2 : k < (ordL ws xs).length := by omega
      obtain ⟨bw0, rfl⟩ := slSome hswo (by omega)
      have hy := getLt hk2
      have hyb := ordL_good hok hy
      have hx := hy
      generalize (ordL ws xs)[k] = y at *
      have hyg := hyb
      unfold repairB inB at hyg
      simp only [Bool.and_eq_true, decide_eq_true_eq] at hyg
      refine ct_skip ?_
      refine at_then ?_
      refine ct_seq ?_
      refine ct_block ?_
      refine ct_seq ?_
      refine ct_reg ?_
      first | refine rl_val gw_none (ov_ix Try.underlying37 sz53 rfl rfl _ rfl (by omega)) rfl ?_ | refine rl_val gw_none (ov_ix Try.underlying37 sz53 rfl rfl (k) (by omega) (by omega)) rfl ?_
      refine rl_val gw_none (ov_loada 1 ag53 rfl rfl (vs := encRepair y) rfl (repCells hy _)) rfl ?_
      refine rl_alloc ze53 rfl (fun N1 => ?_)
      refine rl_store [] sz53 rfl rfl rfl rfl rfl (Nat.le_of_ble_eq_true rfl) ?_
      refine rl_nil ?_
      refine at_then ?_
      refine ct_reg ?_
      refine rl_val gw_none (ov_move rfl) rfl ?_
      refine rl_val gw_none (ov_field fo53_0 rfl) rfl ?_
      first | refine rl_val gw_none (ov_load 0 sc3 rfl rfl rfl) rfl ?_ | refine rl_val gw_none (ov_load 0 sc3 rfl rfl (by assumption)) rfl ?_
      refine rl_bslice Try.underlying34 ze3 sz3 rfl rfl rfl rfl rfl rfl (fun N2 => ?_)
      refine rl_appT (ints) (ints_append) [_, _] (acc := acc) Try.underlying34 ze3 sz3 rfl rfl by3 rfl rfl rfl hsl ([y.frame]) rfl (fun w1 hp => hp.sr1 0 rfl rfl (by decide)) (ints_one _) (by unfold maxLen; omega) (by omega) rfl (fun boq1 capq1 padq1 hsq1 => ?_)
      refine rl_val gw_none (ov_assign rfl) rfl ?_
      refine rl_nil ?_
      refine at_block ?_
      refine at_then ?_
      refine ct_reg ?_
      refine rl_val gw_none (ov_add rfl rfl (by omega)) rfl ?_
      refine rl_val gw_none (ov_move rfl) rfl ?_
      refine rl_nil ?_
      have hpx := selL_yes (p := fun _ : Repair => true) (f := fun x => (x : Repair).frame) hacc hx rfl
      exact at_backR (k + 1, boq1, capq1, padq1, acc ++ [(y : Repair).frame]) ⟨hk2, hpx, hsq1⟩ (by dsimp only at *; omega) (by (repeat' (first | exact Sub.nil | refine Sub.cons ?_ ?_)); all_goals (first | rfl | exact lkInt rfl (by omega))) (Sub.cons rfl (Sub.cons rfl (Sub.cons rfl (Sub.cons rfl Sub.nil)))) (fun _ hq => hq.drop.drop)
    ·
      have hke : k = (ordL ws xs).length := by omega
      subst hke
      refine ct_exit ?_
      refine at_then_exit ?_
      refine at_then_exit ?_
      refine at_block_hit ?_
      refine at_then ?_
      refine ct_seq ?_
      refine ct_reg ?_
      refine rl_val gw_none (ov_move rfl) rfl ?_
      refine rl_val gw_none (ov_assign rfl) rfl ?_
      refine rl_val gw_none (ov_assign rfl) rfl ?_
      refine rl_nil ?_
      refine at_then ?_
      refine ct_ret ?_
      refine at_ret2 Try.results37 (ro_tmp rfl) (ro_tmp rfl) (fun w1 hp => ?_)
      first | (rw [show woR ws xs = acc from (selR_yes hok).trans hacc.symm, hok]; exact RetSl.own 0 hp rfl hsl) | (have hb : repairsB ws xs = false := (by simpa using h1); rw [show woR ws xs = [] from selR_no hb, hb]; first | exact RetSl.nil hp.ext0 | exact RetSl.lit 0 hp rfl rfl (by decide))

theorem sWorkOrder_c (ws : List Wood) (xs : List Repair) (vws : Value) (vxs : Value) (w : World) (hGws : ∀ y ∈ ws, GWood y) (hsws : SR w 3 vws ws.length (flat encWood ws)) (hGxs : ∀ y ∈ xs, GRepair y) (hsxs : SR w 5 vxs xs.length (flat encRepair xs)) : Calls Try.prog 38 ([vws, vxs]).toArray w (fun e w' => RetSl 3 1 (ints (woR ws xs)) ((woR ws xs).length) (fun s => .tuple #[s, .bool (repairsB ws xs)]) w e w') := by
  obtain ⟨aws, capws, rfl, hcapws, hmaxws⟩ := hsws.slice
  have hlenws := hsws.len_le
  obtain ⟨axs, capxs, rfl, hcapxs, hmaxxs⟩ := hsxs.slice
  have hlenxs := hsxs.len_le
  refine calls_ct Try.func38 Try.ntmps38 rfl rfl ?_
  refine ct_seq ?_
  refine ct_reg ?_
  refine rl_val gw_none (ov_assign rfl) rfl ?_
  refine rl_val gw_none (ov_assign rfl) rfl ?_
  refine rl_nil ?_
  refine at_then ?_
  refine ct_seq ?_
  refine ct_reg ?_
  refine rl_bslice Try.underlying34 ze3 sz3 rfl rfl rfl rfl rfl rfl (fun N1 => ?_)
  refine rl_val gw_none (ov_assign rfl) rfl ?_
  refine rl_nil ?_
  refine at_then ?_
  refine ct_seq ?_
  refine ct_seq ?_
  refine ct_reg ?_
  refine rl_val gw_none (ov_move rfl) rfl ?_
  refine rl_val gw_none (ov_move rfl) rfl ?_
  refine rl_callv gw_none goes65 rfl (fun w1 hp => l23Good_c ws xs _ _ _ hGws (hsws.ext hp.ext0) hGxs (hsxs.ext hp.ext0)) rfl ?_
  refine rl_val gw_none (ov_not rfl) rfl ?_
  refine rl_nil ?_
  refine at_then ?_
  first | refine ct_dec rfl (fun h1 => ?_) (fun h1 => ?_) | refine ct_ndec rfl (fun h1 => ?_) (fun h1 => ?_) | refine ct_eq rfl (fun h1 => ?_) (fun h1 => ?_) | refine ct_ne rfl (fun h1 => ?_) (fun h1 => ?_) | refine ct_not rfl (fun h1 => ?_) (fun h1 => ?_) | refine ct_cond rfl (fun h1 => ?_) (fun h1 => ?_)
  ·
    refine ct_seq ?_
    refine ct_reg ?_
    refine rl_val gw_none (ov_move rfl) rfl ?_
    refine rl_val gw_none (ov_assign rfl) rfl ?_
    refine rl_val gw_none (ov_assign rfl) rfl ?_
    refine rl_nil ?_
    refine at_then ?_
    refine ct_ret ?_
    refine at_then_ret ?_
    refine at_ret2 Try.results38 (ro_tmp rfl) (ro_tmp rfl) (fun w1 hp => ?_)
    first | (rw [show woR ws xs = acc from (selR_yes hok).trans hacc.symm, hok]; exact RetSl.own 0 hp rfl hsl) | (have hb : repairsB ws xs = false := (by simpa using h1); rw [show woR ws xs = [] from selR_no hb, hb]; first | exact RetSl.nil hp.ext0 | exact RetSl.lit 0 hp rfl rfl (by decide))
  ·
    have hok : repairsB ws xs = true := by simpa using h1
    have hw := (repairs_woods hok).1
    have hx10 := (repairs_woods hok).2
    have hol := ordL_len ws xs
    refine ct_skip ?_
    refine at_then ?_
    refine ct_seq ?_
    refine ct_reg ?_
    refine rl_val gw_none (ov_move rfl) rfl ?_
    refine rl_val gw_none (ov_move rfl) rfl ?_
    refine rl_callsl (ι := Nat × List Value) (fun i bo => sv bo (ordL ws xs).length i.1) (fun i => flat encRepair (ordL ws xs) ++ i.2) (fun i bo => Sl 5 bo (ordL ws xs).length i.1 (flat encRepair (ordL ws xs)) i.2) goes66 rfl (fun w1 hp => l23Order_c ws xs _ _ _ hGws (hsws.ext hp.ext0) hGxs (hsxs.ext hp.ext0) hok) rfl (fun iwo bowo hswo => ?_)
    refine rl_val gw_none (ov_assign rfl) rfl ?_
    refine rl_nil ?_
    refine at_then ?_
    refine ct_seq ?_
    refine ct_seq ?_
    refine ct_reg ?_
    refine rl_val gw_none (ov_assign rfl) rfl ?_
    refine rl_nil ?_
    refine at_then ?_
    refine ct_block ?_
    refine ct_loopR (ι := Nat × Option Nat × Nat × List Value × List Int) (fun p0 => [(6, sv p0.2.1 p0.2.2.2.2.length p0.2.2.1), (8, .int .i64 p0.1)]) [(4, _), (5, _), (7, _)] (fun p0 => _ :: (p0.2.1, 3, ints p0.2.2.2.2 ++ p0.2.2.2.1) :: _) (fun p0 => p0.1 ≤ (ordL ws xs).length ∧ p0.2.2.2.2 = selL (fun _ : Repair => true) (fun x => (x : Repair).frame) (ordL ws xs) p0.1 ∧ Sl 1 p0.2.1 p0.2.2.2.2.length p0.2.2.1 (ints p0.2.2.2.2) p0.2.2.2.1) (fun p0 => (ordL ws xs).length - p0.1) ((0, some N1, 0, [], [])) (Sub.cons rfl (Sub.cons rfl (Sub.cons rfl Sub.nil))) (fun _ hq => hq) (by (repeat' (first | exact Sub.nil | refine Sub.cons ?_ ?_)); all_goals (first | rfl | exact lkInt rfl (by omega))) ⟨Nat.zero_le _, selL_zero _ _ _, Sl.lit rfl (Nat.zero_le _)⟩ (fun p0 hp0 => ?_)
    obtain ⟨k, bo, cap, pad, acc⟩ := p0
    obtain ⟨hk, hacc, hsl⟩ := hp0
    dsimp only at hk hacc hsl
    have hal := selL_len hacc
    refine ct_seq ?_
    refine ct_seq ?_
    refine ct_reg ?_
    refine rl_val gw_none (ov_move rfl) rfl ?_
    refine rl_val gw_none (ov_move rfl) rfl ?_
    refine rl_val gw_none (ov_len Try.underlying37 rfl) rfl ?_
    refine rl_val gw_none (ov_lss rfl rfl) rfl ?_
    refine rl_nil ?_
    refine at_then ?_
    first | refine ct_dec rfl (fun h2 => ?_) (fun h2 => ?_) | refine ct_ndec rfl (fun h2 => ?_) (fun h2 => ?_) | refine ct_eq rfl (fun h2 => ?_) (fun h2 => ?_) | refine ct_ne rfl (fun h2 => ?_) (fun h2 => ?_) | refine ct_not rfl (fun h2 => ?_) (fun h2 => ?_) | refine ct_cond rfl (fun h2 => ?_) (fun h2 => ?_)
    ·
      have hk2 : k < (ordL ws xs).length := by omega
      obtain ⟨bw0, rfl⟩ := slSome hswo (by omega)
      have hy := getLt hk2
      have hyb := ordL_good hok hy
      have hx := hy
      generalize (ordL ws xs)[k] = y at *
      have hyg := hyb
      unfold repairB inB at hyg
      simp only [Bool.and_eq_true, decide_eq_true_eq] at hyg
      refine ct_skip ?_
      refine at_then ?_
      refine ct_seq ?_
      refine ct_block ?_
      refine ct_reg ?_
      refine rl_val gw_none (ov_move rfl) rfl ?_
      refine rl_val gw_none (ov_move rfl) rfl ?_
      refine rl_val gw_none (ov_move rfl) rfl ?_
      first | refine rl_val gw_none (ov_ix Try.underlying37 sz53 rfl rfl _ rfl (by omega)) rfl ?_ | refine rl_val gw_none (ov_ix Try.underlying37 sz53 rfl rfl (k) (by omega) (by omega)) rfl ?_
      refine rl_val gw_none (ov_field fo53_0 rfl) rfl ?_
      refine rl_val gw_none (ov_load 0 sc3 rfl rfl (flatGet encRepair_len (f := 0) hy rfl _)) rfl ?_
      refine rl_bslice Try.underlying34 ze3 sz3 rfl rfl rfl rfl rfl rfl (fun N2 => ?_)
      refine rl_appT (ints) (ints_append) [_, _] (acc := acc) Try.underlying34 ze3 sz3 rfl rfl by3 rfl rfl rfl hsl ([y.frame]) rfl (fun w1 hp => hp.sr1 0 rfl rfl (by decide)) (ints_one _) (by unfold maxLen; omega) (by omega) rfl (fun boq1 capq1 padq1 hsq1 => ?_)
      refine rl_val gw_none (ov_assign rfl) rfl ?_
      refine rl_nil ?_
      refine at_block ?_
      refine at_then ?_
      refine ct_reg ?_
      refine rl_val gw_none (ov_move rfl) rfl ?_
      refine rl_val gw_none (ov_add rfl rfl (by omega)) rfl ?_
      refine rl_val gw_none (ov_assign rfl) rfl ?_
      refine rl_nil ?_
      have hpx := selL_yes (p := fun _ : Repair => true) (f := fun x => (x : Repair).frame) hacc hx rfl
      exact at_backR (k + 1, boq1, capq1, padq1, acc ++ [(y : Repair).frame]) ⟨hk2, hpx, hsq1⟩ (by dsimp only at *; omega) (by (repeat' (first | exact Sub.nil | refine Sub.cons ?_ ?_)); all_goals (first | rfl | exact lkInt rfl (by omega))) (Sub.cons rfl (Sub.cons rfl (Sub.cons rfl Sub.nil))) (fun _ hq => hq.drop)
    ·
      have hke : k = (ordL ws xs).length := by omega
      subst hke
      refine ct_exit ?_
      refine at_then_exit ?_
      refine at_then_exit ?_
      refine at_block_hit ?_
      refine at_then ?_
      refine ct_seq ?_
      refine ct_reg ?_
      refine rl_val gw_none (ov_move rfl) rfl ?_
      refine rl_val gw_none (ov_assign rfl) rfl ?_
      refine rl_val gw_none (ov_assign rfl) rfl ?_
      refine rl_nil ?_
      refine at_then ?_
      refine ct_ret ?_
      refine at_ret2 Try.results38 (ro_tmp rfl) (ro_tmp rfl) (fun w1 hp => ?_)
      first | (rw [show woR ws xs = acc from (selR_yes hok).trans hacc.symm, hok]; exact RetSl.own 1 hp rfl hsl) | (have hb : repairsB ws xs = false := (by simpa using h1); rw [show woR ws xs = [] from selR_no hb, hb]; first | exact RetSl.nil hp.ext0 | exact RetSl.lit 0 hp rfl rfl (by decide))
end Go.Proofs.Ytaajkamfeaafpaa
