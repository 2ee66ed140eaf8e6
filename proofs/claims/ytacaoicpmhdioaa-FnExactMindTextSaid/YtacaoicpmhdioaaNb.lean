import Derived.Test.YtacaoicpmhdioaaNa
import Derived.KernelRfl
set_option linter.unusedVariables false
set_option linter.unusedSimpArgs false
namespace Go.Proofs.Ytacaoicpmhdioaa
open Go Go.RowKit K
theorem szIntS_c (len : Nat) (left : Int) (v : Value) (w : World) (L : List Value) (hsr : SR w 1 v len L) (hl : 0 ≤ left ∧ left ≤ 1048576) : Calls Try.prog 70 ([v, .int .i64 left]).toArray w (fun e w' => ∃ r : Int, (r < 0 ∨ (0 ≤ r ∧ r ≤ left - len)) ∧ e = .returned (.int .i64 r) ∧ Ext w w') := by
  obtain ⟨a, cap, rfl, hcap, hmax⟩ := hsr.slice
  have hlen := hsr.len_le
  refine calls_ct Try.func70 Try.ntmps70 rfl rfl ?_
  refine ct_seq ?_
  refine ct_reg ?_
  refine rl_val gw_none (ov_assign rfl) rfl ?_
  refine rl_nil ?_
  refine at_then ?_
  refine ct_seq ?_
  refine ct_reg ?_
  refine rl_val gw_none (ov_move rfl) rfl ?_
  refine rl_val gw_none (ov_move rfl) rfl ?_
  refine rl_val gw_none (ov_len Try.underlying42 rfl) rfl ?_
  refine rl_val gw_none (ov_sub rfl rfl (by omega)) rfl ?_
  refine rl_val gw_none (ov_assign rfl) rfl ?_
  refine rl_nil ?_
  refine at_then ?_
  refine ct_seq ?_
  refine ct_seq ?_
  refine ct_reg ?_
  refine rl_val gw_none (ov_move rfl) rfl ?_
  refine rl_val gw_none (ov_lss rfl rfl) rfl ?_
  refine rl_nil ?_
  refine at_then ?_
  first | refine ct_dec rfl (fun h1 => ?_) (fun h1 => ?_) | refine ct_ndec rfl (fun h1 => ?_) (fun h1 => ?_) | refine ct_eq rfl (fun h1 => ?_) (fun h1 => ?_) | refine ct_ne rfl (fun h1 => ?_) (fun h1 => ?_) | refine ct_not rfl (fun h1 => ?_) (fun h1 => ?_) | refine ct_cond rfl (fun h1 => ?_) (fun h1 => ?_)
  ·
    refine ct_seq ?_
    refine ct_reg ?_
    refine rl_val gw_none (ov_assign rfl) rfl ?_
    refine rl_nil ?_
    refine at_then ?_
    refine ct_ret ?_
    refine at_then_ret ?_
    refine at_ret1 Try.results70 (ro_tmp rfl) (fun w1 hp => ?_)
    exact ⟨_, by omega, rfl, hp.ext0⟩
  ·
    refine ct_skip ?_
    refine at_then ?_
    refine ct_seq ?_
    refine ct_reg ?_
    refine rl_val gw_none (ov_move rfl) rfl ?_
    refine rl_val gw_none (ov_assign rfl) rfl ?_
    refine rl_nil ?_
    refine at_then ?_
    refine ct_ret ?_
    refine at_ret1 Try.results70 (ro_tmp rfl) (fun w1 hp => ?_)
    exact ⟨_, by omega, rfl, hp.ext0⟩

theorem markIntS_m (k0 : Int) (b len cap : Nat) (L : List Value) (w : World) (hh : w.heap[b]? = some (.cells L.toArray 3 (0, 0))) (hL : L.length = len * 1) (hk0 : 0 ≤ k0 ∧ k0 ≤ 1000000000000 ∧ len ≤ 1000000000000) :
    Calls Try.prog 31 [.slice (some ⟨b, 0, none⟩) len cap, .int .i64 k0].toArray w (fun e w' => e = .returned (.int .i64 (k0 + 1 * (len : Nat))) ∧ Turn w w' b) :=
  (markIntS_s k0 b len cap L w hh (by rw [hL, Nat.mul_comm]; exact Nat.le_refl _) hk0).mono fun e w' ⟨he, ht, _⟩ => ⟨he, ht⟩

theorem szMind_c (left : Int) (u : Int) (l : Int) (xs : List IntA2) (cl : List Int) (im : List Int) (be : Int) (gu : Int) (vxs : Value) (vcl : Value) (vim : Value) (w : World) (zu : In64 u) (zl : In64 l) (hGxs : ∀ y ∈ xs, GIntA2 y) (hsxs : SR w 2 vxs xs.length (flat encIntA2 xs)) (hscl : SR w 1 vcl cl.length (ints cl)) (hsim : SR w 1 vim im.length (ints im)) (zbe : In64 be) (zgu : In64 gu) (hl : 0 ≤ left ∧ left ≤ 1048576) : Calls Try.prog 37 ([.agg (List.toArray (α := Value) [.int .i64 u, .int .i64 l, vxs, vcl, vim, .int .i64 be, .int .i64 gu]), .int .i64 left]).toArray w (fun e w' => ∃ r : Int, (r < 0 ∨ (0 ≤ r ∧ r ≤ left - xs.length - cl.length - im.length)) ∧ e = .returned (.int .i64 r) ∧ Ext w w') := by
  obtain ⟨axs, capxs, rfl, hcapxs, hmaxxs⟩ := hsxs.slice
  have hlenxs := hsxs.len_le
  obtain ⟨acl, capcl, rfl, hcapcl, hmaxcl⟩ := hscl.slice
  have hlencl := hscl.len_le
  obtain ⟨aim, capim, rfl, hcapim, hmaxim⟩ := hsim.slice
  have hlenim := hsim.len_le
  refine calls_ct Try.func37 Try.ntmps37 rfl rfl ?_
  refine ct_seq ?_
  refine ct_reg ?_
  refine rl_box rfl rfl (fun N1 => ?_)
  refine rl_val gw_none (ov_assign rfl) rfl ?_
  refine rl_nil ?_
  refine at_then ?_
  refine ct_seq ?_
  refine ct_reg ?_
  refine rl_val gw_none (ov_field fo51_0 rfl) rfl ?_
  first | refine rl_val gw_none (ov_loadall 0 ag49 rfl rfl rfl) rfl ?_ | refine rl_val gw_none (ov_loadp 0 ag49 rfl rfl (vs := [_, _, _]) rfl rfl) rfl ?_ | refine rl_val gw_none (ov_loada 0 ag49 rfl rfl rfl (by assumption)) rfl ?_
  refine rl_val gw_none (ov_move rfl) rfl ?_
  refine rl_callx (ι := Int) (fun r => .int .i64 r) (fun r => r < 0 ∨ (0 ≤ r ∧ r ≤ left - xs.length)) gw_none goes69 rfl (fun w1 hp => szFrame_c left u l xs _ _ zu zl hGxs (hsxs.ext hp.ext0) (by omega)) rfl (fun r0 hr0 => ?_)
  refine rl_val gw_none (ov_assign rfl) rfl ?_
  refine rl_nil ?_
  refine at_then ?_
  refine ct_seq ?_
  refine ct_seq ?_
  refine ct_reg ?_
  refine rl_val gw_none (ov_move rfl) rfl ?_
  refine rl_val gw_none (ov_lss rfl rfl) rfl ?_
  refine rl_nil ?_
  refine at_then ?_
  first | refine ct_dec rfl (fun h1 => ?_) (fun h1 => ?_) | refine ct_ndec rfl (fun h1 => ?_) (fun h1 => ?_) | refine ct_eq rfl (fun h1 => ?_) (fun h1 => ?_) | refine ct_ne rfl (fun h1 => ?_) (fun h1 => ?_) | refine ct_not rfl (fun h1 => ?_) (fun h1 => ?_) | refine ct_cond rfl (fun h1 => ?_) (fun h1 => ?_)
  ·
    refine ct_seq ?_
    refine ct_reg ?_
    refine rl_val gw_none (ov_assign rfl) rfl ?_
    refine rl_nil ?_
    refine at_then ?_
    refine ct_ret ?_
    refine at_then_ret ?_
    refine at_ret1 Try.results37 (ro_tmp rfl) (fun w1 hp => ?_)
    exact ⟨_, by omega, rfl, hp.ext0⟩
  ·
    refine ct_skip ?_
    refine at_then ?_
    refine ct_seq ?_
    refine ct_reg ?_
    refine rl_val gw_none (ov_field fo51_1 rfl) rfl ?_
    first | refine rl_val gw_none (ov_load 0 sc42 rfl rfl rfl) rfl ?_ | refine rl_val gw_none (ov_load 0 sc42 rfl rfl (by assumption)) rfl ?_
    refine rl_val gw_none (ov_move rfl) rfl ?_
    refine rl_callx (ι := Int) (fun r => .int .i64 r) (fun r => r < 0 ∨ (0 ≤ r ∧ r ≤ r0 - cl.length)) gw_none goes70 rfl (fun w1 hp => szIntS_c cl.length r0 _ _ _ (hscl.ext hp.ext0) (by omega)) rfl (fun r1 hr1 => ?_)
    refine rl_val gw_none (ov_assign rfl) rfl ?_
    refine rl_nil ?_
    refine at_then ?_
    refine ct_seq ?_
    refine ct_seq ?_
    refine ct_reg ?_
    refine rl_val gw_none (ov_move rfl) rfl ?_
    refine rl_val gw_none (ov_lss rfl rfl) rfl ?_
    refine rl_nil ?_
    refine at_then ?_
    first | refine ct_dec rfl (fun h2 => ?_) (fun h2 => ?_) | refine ct_ndec rfl (fun h2 => ?_) (fun h2 => ?_) | refine ct_eq rfl (fun h2 => ?_) (fun h2 => ?_) | refine ct_ne rfl (fun h2 => ?_) (fun h2 => ?_) | refine ct_not rfl (fun h2 => ?_) (fun h2 => ?_) | refine ct_cond rfl (fun h2 => ?_) (fun h2 => ?_)
    ·
      refine ct_seq ?_
      refine ct_reg ?_
      refine rl_val gw_none (ov_assign rfl) rfl ?_
      refine rl_nil ?_
      refine at_then ?_
      refine ct_ret ?_
      refine at_then_ret ?_
      refine at_ret1 Try.results37 (ro_tmp rfl) (fun w1 hp => ?_)
      exact ⟨_, by omega, rfl, hp.ext0⟩
    ·
      refine ct_skip ?_
      refine at_then ?_
      refine ct_seq ?_
      refine ct_reg ?_
      refine rl_val gw_none (ov_field fo51_2 rfl) rfl ?_
      first | refine rl_val gw_none (ov_load 0 sc42 rfl rfl rfl) rfl ?_ | refine rl_val gw_none (ov_load 0 sc42 rfl rfl (by assumption)) rfl ?_
      refine rl_val gw_none (ov_move rfl) rfl ?_
      refine rl_callx (ι := Int) (fun r => .int .i64 r) (fun r => r < 0 ∨ (0 ≤ r ∧ r ≤ r1 - im.length)) gw_none goes70 rfl (fun w1 hp => szIntS_c im.length r1 _ _ _ (hsim.ext hp.ext0) (by omega)) rfl (fun r2 hr2 => ?_)
      refine rl_val gw_none (ov_assign rfl) rfl ?_
      refine rl_nil ?_
      refine at_then ?_
      refine ct_seq ?_
      refine ct_seq ?_
      refine ct_reg ?_
      refine rl_val gw_none (ov_move rfl) rfl ?_
      refine rl_val gw_none (ov_lss rfl rfl) rfl ?_
      refine rl_nil ?_
      refine at_then ?_
      first | refine ct_dec rfl (fun h3 => ?_) (fun h3 => ?_) | refine ct_ndec rfl (fun h3 => ?_) (fun h3 => ?_) | refine ct_eq rfl (fun h3 => ?_) (fun h3 => ?_) | refine ct_ne rfl (fun h3 => ?_) (fun h3 => ?_) | refine ct_not rfl (fun h3 => ?_) (fun h3 => ?_) | refine ct_cond rfl (fun h3 => ?_) (fun h3 => ?_)
      ·
        refine ct_seq ?_
        refine ct_reg ?_
        refine rl_val gw_none (ov_assign rfl) rfl ?_
        refine rl_nil ?_
        refine at_then ?_
        refine ct_ret ?_
        refine at_then_ret ?_
        refine at_ret1 Try.results37 (ro_tmp rfl) (fun w1 hp => ?_)
        exact ⟨_, by omega, rfl, hp.ext0⟩
      ·
        refine ct_skip ?_
        refine at_then ?_
        refine ct_seq ?_
        refine ct_reg ?_
        refine rl_val gw_none (ov_move rfl) rfl ?_
        refine rl_val gw_none (ov_assign rfl) rfl ?_
        refine rl_nil ?_
        refine at_then ?_
        refine ct_ret ?_
        refine at_ret1 Try.results37 (ro_tmp rfl) (fun w1 hp => ?_)
        exact ⟨_, by omega, rfl, hp.ext0⟩

theorem toMind_c (u : Int) (l : Int) (xs : List IntA2) (cl : List Int) (im : List Int) (be : Int) (gu : Int) (vxs : Value) (vcl : Value) (vim : Value) (w : World) (zu : In64 u) (zl : In64 l) (hGxs : ∀ y ∈ xs, GIntA2 y) (hsxs : SR w 2 vxs xs.length (flat encIntA2 xs)) (hscl : SR w 1 vcl cl.length (ints cl)) (hsim : SR w 1 vim im.length (ints im)) (zbe : In64 be) (zgu : In64 gu) (hbxs : xs.length ≤ 1048576) (hbcl : cl.length ≤ 1048576) (hbim : im.length ≤ 1048576) : Calls Try.prog 39 ([.agg (List.toArray (α := Value) [.int .i64 u, .int .i64 l, vxs, vcl, vim, .int .i64 be, .int .i64 gu])]).toArray w (fun e w' => ∃ q : Nat × Nat × Nat, True ∧ e = .returned (.agg (List.toArray (α := Value) [.int .i64 u, .int .i64 l, .slice (some ⟨q.1, 0, none⟩) xs.length xs.length, .slice (some ⟨q.2.1, 0, none⟩) cl.length cl.length, .slice (some ⟨q.2.2, 0, none⟩) im.length im.length, .int .i64 be, .int .i64 gu])) ∧ Hp ⟨w, []⟩ [(some q.1, 101, flat encIntA2 xs), (some q.2.1, 3, ints cl), (some q.2.2, 3, ints im)] w') := by
  obtain ⟨axs, capxs, rfl, hcapxs, hmaxxs⟩ := hsxs.slice
  have hlenxs := hsxs.len_le
  obtain ⟨acl, capcl, rfl, hcapcl, hmaxcl⟩ := hscl.slice
  have hlencl := hscl.len_le
  obtain ⟨aim, capim, rfl, hcapim, hmaxim⟩ := hsim.slice
  have hlenim := hsim.len_le
  refine calls_ct Try.func39 Try.ntmps39 rfl rfl ?_
  refine ct_seq ?_
  refine ct_reg ?_
  refine rl_box rfl rfl (fun N1 => ?_)
  refine rl_alloc ze56 rfl (fun N2 => ?_)
  refine rl_nil ?_
  refine at_then ?_
  refine ct_seq ?_
  refine ct_reg ?_
  refine rl_alloc ze56 rfl (fun N3 => ?_)
  refine rl_nil ?_
  refine at_then ?_
  refine ct_seq ?_
  refine ct_reg ?_
  refine rl_val gw_none (ov_field fo51_0 rfl) rfl ?_
  first | refine rl_val gw_none (ov_loadall 2 ag49 rfl rfl rfl) rfl ?_ | refine rl_val gw_none (ov_loadp 2 ag49 rfl rfl (vs := [_, _, _]) rfl rfl) rfl ?_ | refine rl_val gw_none (ov_loada 2 ag49 rfl rfl rfl (by assumption)) rfl ?_
  refine rl_calle (ι := Nat) (fun q => .agg [.int .i64 u, .int .i64 l, .slice (some ⟨q, 0, none⟩) xs.length xs.length].toArray) (fun q => [(some q, 101, flat encIntA2 xs)]) (fun _ => True) goes72 rfl (fun w1 hp => toFrame_c u l xs _ _ zu zl hGxs (hsxs.ext hp.ext0) hbxs) rfl (fun q1 _ => ?_)
  refine rl_val gw_none (ov_field fo56_0 rfl) rfl ?_
  refine rl_store [_] sz54 rfl rfl rfl rfl rfl (Nat.le_of_ble_eq_true rfl) ?_
  refine rl_nil ?_
  refine at_then ?_
  refine ct_seq ?_
  refine ct_reg ?_
  refine rl_val gw_none (ov_field fo51_1 rfl) rfl ?_
  first | refine rl_val gw_none (ov_load 3 sc42 rfl rfl rfl) rfl ?_ | refine rl_val gw_none (ov_load 3 sc42 rfl rfl (by assumption)) rfl ?_
  refine rl_callnew (fun b => .slice (some ⟨b, 0, none⟩) cl.length cl.length) goes73 rfl (fun w1 hp => toIntS_c cl _ _ (hscl.ext hp.ext0) hbcl) rfl (fun b1 => ?_)
  refine rl_val gw_none (ov_field fo56_1 rfl) rfl ?_
  refine rl_store [_, _] sz42 rfl rfl rfl rfl rfl (Nat.le_of_ble_eq_true rfl) ?_
  refine rl_nil ?_
  refine at_then ?_
  refine ct_seq ?_
  refine ct_reg ?_
  refine rl_val gw_none (ov_field fo51_2 rfl) rfl ?_
  first | refine rl_val gw_none (ov_load 4 sc42 rfl rfl rfl) rfl ?_ | refine rl_val gw_none (ov_load 4 sc42 rfl rfl (by assumption)) rfl ?_
  refine rl_callnew (fun b => .slice (some ⟨b, 0, none⟩) im.length im.length) goes73 rfl (fun w1 hp => toIntS_c im _ _ (hsim.ext hp.ext0) hbim) rfl (fun b2 => ?_)
  refine rl_val gw_none (ov_field fo56_2 rfl) rfl ?_
  refine rl_store [_, _, _] sz42 rfl rfl rfl rfl rfl (Nat.le_of_ble_eq_true rfl) ?_
  refine rl_nil ?_
  refine at_then ?_
  refine ct_seq ?_
  refine ct_reg ?_
  refine rl_val gw_none (ov_field fo51_3 rfl) rfl ?_
  first | refine rl_val gw_none (ov_load 5 sc3 rfl rfl rfl) rfl ?_ | refine rl_val gw_none (ov_load 5 sc3 rfl rfl (by assumption)) rfl ?_
  refine rl_val gw_none (ov_field fo56_3 rfl) rfl ?_
  refine rl_store [_, _, _] sz3 rfl rfl rfl rfl rfl (Nat.le_of_ble_eq_true rfl) ?_
  refine rl_nil ?_
  refine at_then ?_
  refine ct_seq ?_
  refine ct_reg ?_
  refine rl_val gw_none (ov_field fo51_4 rfl) rfl ?_
  first | refine rl_val gw_none (ov_load 5 sc3 rfl rfl rfl) rfl ?_ | refine rl_val gw_none (ov_load 5 sc3 rfl rfl (by assumption)) rfl ?_
  refine rl_val gw_none (ov_field fo56_4 rfl) rfl ?_
  refine rl_store [_, _, _] sz3 rfl rfl rfl rfl rfl (Nat.le_of_ble_eq_true rfl) ?_
  refine rl_nil ?_
  refine at_then ?_
  refine ct_seq ?_
  refine ct_reg ?_
  first | refine rl_val gw_none (ov_loadall 3 ag56 rfl rfl rfl) rfl ?_ | refine rl_val gw_none (ov_loadp 3 ag56 rfl rfl (vs := [_, _, _, _, _, _, _]) rfl rfl) rfl ?_ | refine rl_val gw_none (ov_loada 3 ag56 rfl rfl rfl (by assumption)) rfl ?_
  refine rl_store [_, _, _, _] sz56 rfl rfl rfl rfl rfl (Nat.le_of_ble_eq_true rfl) ?_
  refine rl_nil ?_
  refine at_then ?_
  refine ct_ret ?_
  refine at_ret1 Try.results39 (ro_cell 4 ag56 rfl rfl rfl) (fun w1 hp => ?_)
  exact ⟨(q1, b1, b2), trivial, rfl, (Hp.sub (Hp.pull (Hp.pull (Hp.pull hp 0 rfl) 1 rfl) 2 rfl) (List.sublist_append_left [_, _, _] _))⟩

theorem eqMind_c (u : Int) (l : Int) (xs : List IntA2) (cl : List Int) (im : List Int) (be : Int) (gu : Int) (vxs : Value) (vcl : Value) (vim : Value) (uxs : Value) (ucl : Value) (uim : Value) (w : World) (hsxs : SR w 2 vxs xs.length (flat encIntA2 xs)) (hscl : SR w 1 vcl cl.length (ints cl)) (hsim : SR w 1 vim im.length (ints im)) (htxs : SR w 2 uxs xs.length (flat encIntA2 xs)) (htcl : SR w 1 ucl cl.length (ints cl)) (htim : SR w 1 uim im.length (ints im)) : Calls Try.prog 41 ([.agg (List.toArray (α := Value) [.int .i64 u, .int .i64 l, vxs, vcl, vim, .int .i64 be, .int .i64 gu]), .agg (List.toArray (α := Value) [.int .i64 u, .int .i64 l, uxs, ucl, uim, .int .i64 be, .int .i64 gu])]).toArray w (fun e w' => e = .returned (.bool true) ∧ Ext w w') := by
  obtain ⟨axs, capxs, rfl, hcapxs, hmaxxs⟩ := hsxs.slice
  obtain ⟨a2xs, cap2xs, rfl, _, _⟩ := htxs.slice
  obtain ⟨acl, capcl, rfl, hcapcl, hmaxcl⟩ := hscl.slice
  obtain ⟨a2cl, cap2cl, rfl, _, _⟩ := htcl.slice
  obtain ⟨aim, capim, rfl, hcapim, hmaxim⟩ := hsim.slice
  obtain ⟨a2im, cap2im, rfl, _, _⟩ := htim.slice
  refine calls_ct Try.func41 Try.ntmps41 rfl rfl ?_
  refine ct_seq ?_
  refine ct_reg ?_
  refine rl_box rfl rfl (fun N1 => ?_)
  refine rl_box rfl rfl (fun N2 => ?_)
  refine rl_val gw_none (ov_assign rfl) rfl ?_
  refine rl_nil ?_
  refine at_then ?_
  refine ct_seq ?_
  refine ct_seq ?_
  refine ct_reg ?_
  refine rl_val gw_none (ov_field fo56_0 rfl) rfl ?_
  first | refine rl_val gw_none (ov_loadall 1 ag54 rfl rfl rfl) rfl ?_ | refine rl_val gw_none (ov_loadp 1 ag54 rfl rfl (vs := [_, _, _]) rfl rfl) rfl ?_ | refine rl_val gw_none (ov_loada 1 ag54 rfl rfl rfl (by assumption)) rfl ?_
  refine rl_val gw_none (ov_field fo56_0 rfl) rfl ?_
  first | refine rl_val gw_none (ov_loadall 0 ag54 rfl rfl rfl) rfl ?_ | refine rl_val gw_none (ov_loadp 0 ag54 rfl rfl (vs := [_, _, _]) rfl rfl) rfl ?_ | refine rl_val gw_none (ov_loada 0 ag54 rfl rfl rfl (by assumption)) rfl ?_
  refine rl_callv gw_none goes75 rfl (fun w1 hp => eqFrame_c u l xs _ _ _ (hsxs.ext hp.ext0) (htxs.ext hp.ext0)) rfl ?_
  refine rl_val gw_none (ov_not rfl) rfl ?_
  refine rl_nil ?_
  refine at_then ?_
  refine ct_false rfl rfl ?_
  refine ct_skip ?_
  refine at_then ?_
  refine ct_seq ?_
  refine ct_seq ?_
  refine ct_reg ?_
  refine rl_val gw_none (ov_field fo56_1 rfl) rfl ?_
  first | refine rl_val gw_none (ov_load 1 sc42 rfl rfl rfl) rfl ?_ | refine rl_val gw_none (ov_load 1 sc42 rfl rfl (by assumption)) rfl ?_
  refine rl_val gw_none (ov_field fo56_1 rfl) rfl ?_
  first | refine rl_val gw_none (ov_load 0 sc42 rfl rfl rfl) rfl ?_ | refine rl_val gw_none (ov_load 0 sc42 rfl rfl (by assumption)) rfl ?_
  refine rl_callv gw_none goes30 rfl (fun w1 hp => eqIntS_c cl _ _ _ (hscl.ext hp.ext0) (htcl.ext hp.ext0)) rfl ?_
  refine rl_val gw_none (ov_not rfl) rfl ?_
  refine rl_nil ?_
  refine at_then ?_
  refine ct_false rfl rfl ?_
  refine ct_skip ?_
  refine at_then ?_
  refine ct_seq ?_
  refine ct_seq ?_
  refine ct_reg ?_
  refine rl_val gw_none (ov_field fo56_2 rfl) rfl ?_
  first | refine rl_val gw_none (ov_load 1 sc42 rfl rfl rfl) rfl ?_ | refine rl_val gw_none (ov_load 1 sc42 rfl rfl (by assumption)) rfl ?_
  refine rl_val gw_none (ov_field fo56_2 rfl) rfl ?_
  first | refine rl_val gw_none (ov_load 0 sc42 rfl rfl rfl) rfl ?_ | refine rl_val gw_none (ov_load 0 sc42 rfl rfl (by assumption)) rfl ?_
  refine rl_callv gw_none goes30 rfl (fun w1 hp => eqIntS_c im _ _ _ (hsim.ext hp.ext0) (htim.ext hp.ext0)) rfl ?_
  refine rl_val gw_none (ov_not rfl) rfl ?_
  refine rl_nil ?_
  refine at_then ?_
  refine ct_false rfl rfl ?_
  refine ct_skip ?_
  refine at_then ?_
  refine ct_seq ?_
  refine ct_seq ?_
  refine ct_reg ?_
  refine rl_val gw_none (ov_field fo56_3 rfl) rfl ?_
  first | refine rl_val gw_none (ov_load 1 sc3 rfl rfl rfl) rfl ?_ | refine rl_val gw_none (ov_load 1 sc3 rfl rfl (by assumption)) rfl ?_
  refine rl_val gw_none (ov_field fo56_3 rfl) rfl ?_
  first | refine rl_val gw_none (ov_load 0 sc3 rfl rfl rfl) rfl ?_ | refine rl_val gw_none (ov_load 0 sc3 rfl rfl (by assumption)) rfl ?_
  refine rl_val gw_none (ov_neq rfl rfl) rfl ?_
  refine rl_nil ?_
  refine at_then ?_
  first | refine ct_dec rfl (fun h1 => ?_) (fun h1 => ?_) | refine ct_ndec rfl (fun h1 => ?_) (fun h1 => ?_) | refine ct_eq rfl (fun h1 => ?_) (fun h1 => ?_) | refine ct_ne rfl (fun h1 => ?_) (fun h1 => ?_) | refine ct_not rfl (fun h1 => ?_) (fun h1 => ?_) | refine ct_cond rfl (fun h1 => ?_) (fun h1 => ?_)
  ·
    exfalso; first | omega | exact absurd rfl h1 | (simp at h1; done) | (simp_all; done)
  ·
    refine ct_skip ?_
    refine at_then ?_
    refine ct_seq ?_
    refine ct_seq ?_
    refine ct_reg ?_
    refine rl_val gw_none (ov_field fo56_4 rfl) rfl ?_
    first | refine rl_val gw_none (ov_load 1 sc3 rfl rfl rfl) rfl ?_ | refine rl_val gw_none (ov_load 1 sc3 rfl rfl (by assumption)) rfl ?_
    refine rl_val gw_none (ov_field fo56_4 rfl) rfl ?_
    first | refine rl_val gw_none (ov_load 0 sc3 rfl rfl rfl) rfl ?_ | refine rl_val gw_none (ov_load 0 sc3 rfl rfl (by assumption)) rfl ?_
    refine rl_val gw_none (ov_neq rfl rfl) rfl ?_
    refine rl_nil ?_
    refine at_then ?_
    first | refine ct_dec rfl (fun h2 => ?_) (fun h2 => ?_) | refine ct_ndec rfl (fun h2 => ?_) (fun h2 => ?_) | refine ct_eq rfl (fun h2 => ?_) (fun h2 => ?_) | refine ct_ne rfl (fun h2 => ?_) (fun h2 => ?_) | refine ct_not rfl (fun h2 => ?_) (fun h2 => ?_) | refine ct_cond rfl (fun h2 => ?_) (fun h2 => ?_)
    ·
      exfalso; first | omega | exact absurd rfl h2 | (simp at h2; done) | (simp_all; done)
    ·
      refine ct_skip ?_
      refine at_then ?_
      refine ct_seq ?_
      refine ct_reg ?_
      refine rl_val gw_none (ov_assign rfl) rfl ?_
      refine rl_nil ?_
      refine at_then ?_
      refine ct_ret ?_
      refine at_ret1 Try.results41 (ro_tmp rfl) (fun w1 hp => ?_)
      exact ⟨rfl, hp.ext0⟩

theorem markMind_m (u l be gu k0 : Int) (b1 b2 b3 n1 n2 n3 c1 c2 c3 : Nat) (L1 L2 L3 : List Value) (D : List Nat) (w : World) (h0 : Hp ⟨w, D⟩ [(some b1, 101, L1), (some b2, 3, L2), (some b3, 3, L3)] w) (hL1 : L1.length = n1 * 2) (hL2 : L2.length = n2 * 1) (hL3 : L3.length = n3 * 1) (hk0 : 0 ≤ k0 ∧ k0 ≤ 1000000 ∧ n1 ≤ 10000000 ∧ n2 ≤ 10000000 ∧ n3 ≤ 10000000) : Calls Try.prog 50 ([.agg [.int .i64 u, .int .i64 l, .slice (some ⟨b1, 0, none⟩) n1 c1, .slice (some ⟨b2, 0, none⟩) n2 c2, .slice (some ⟨b3, 0, none⟩) n3 c3, .int .i64 be, .int .i64 gu].toArray, .int .i64 k0]).toArray w (fun e w' => ∃ _ : Unit, True ∧ e = .returned (.int .i64 (k0 + 2 * (n1 : Nat) + 1 * (n2 : Nat) + 1 * (n3 : Nat))) ∧ Hp ⟨w, D⟩ [] w') := by
  refine calls_ctds h0 Try.func50 Try.ntmps50 rfl rfl ?_
  refine ct_seq ?_
  refine ct_reg ?_
  refine rl_box rfl rfl (fun N1 => ?_)
  refine rl_val gw_none (ov_assign rfl) rfl ?_
  refine rl_nil ?_
  refine at_then ?_
  refine ct_seq ?_
  refine ct_reg ?_
  refine rl_val gw_none (ov_field fo56_0 rfl) rfl ?_
  first | refine rl_val gw_none (ov_loadall 0 ag54 rfl rfl rfl) rfl ?_ | refine rl_val gw_none (ov_loadp 0 ag54 rfl rfl (vs := [_, _, _]) rfl rfl) rfl ?_ | refine rl_val gw_none (ov_loada 0 ag54 rfl rfl rfl (by assumption)) rfl ?_
  refine rl_val gw_none (ov_move rfl) rfl ?_
  refine rl_callm [_] goes80 rfl rfl (fun w1 hp => markFrame_m _ _ _ _ _ _ _ _ (hp.at (i := 1) rfl) hL1 (by omega)) rfl ?_
  refine rl_val gw_none (ov_assign rfl) rfl ?_
  refine rl_nil ?_
  refine at_then ?_
  refine ct_seq ?_
  refine ct_reg ?_
  refine rl_val gw_none (ov_field fo56_1 rfl) rfl ?_
  first | refine rl_val gw_none (ov_load 0 sc42 rfl rfl rfl) rfl ?_ | refine rl_val gw_none (ov_load 0 sc42 rfl rfl (by assumption)) rfl ?_
  refine rl_val gw_none (ov_move rfl) rfl ?_
  refine rl_callm [_] goes31 rfl rfl (fun w1 hp => markIntS_m _ _ _ _ _ _ (hp.at (i := 1) rfl) hL2 (by omega)) rfl ?_
  refine rl_val gw_none (ov_assign rfl) rfl ?_
  refine rl_nil ?_
  refine at_then ?_
  refine ct_seq ?_
  refine ct_reg ?_
  refine rl_val gw_none (ov_field fo56_2 rfl) rfl ?_
  first | refine rl_val gw_none (ov_load 0 sc42 rfl rfl rfl) rfl ?_ | refine rl_val gw_none (ov_load 0 sc42 rfl rfl (by assumption)) rfl ?_
  refine rl_val gw_none (ov_move rfl) rfl ?_
  refine rl_callm [_] goes31 rfl rfl (fun w1 hp => markIntS_m _ _ _ _ _ _ (hp.at (i := 1) rfl) hL3 (by omega)) rfl ?_
  refine rl_val gw_none (ov_assign rfl) rfl ?_
  refine rl_nil ?_
  refine at_then ?_
  refine ct_seq ?_
  refine ct_reg ?_
  refine rl_val gw_none (ov_move rfl) rfl ?_
  refine rl_val gw_none (ov_assign rfl) rfl ?_
  refine rl_nil ?_
  refine at_then ?_
  refine ct_ret ?_
  refine at_ret1 Try.results50 (ro_tmp rfl) (fun w1 hp => ?_)
  exact ⟨(), trivial, rfl, hp.sub (List.nil_sublist _)⟩
end Go.Proofs.Ytacaoicpmhdioaa
