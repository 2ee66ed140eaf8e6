import Derived.Test.YtacaoicpmhdioaaTk
import Derived.KernelRfl
set_option linter.unusedVariables false
set_option linter.unusedSimpArgs false
namespace Go.Proofs.Ytacaoicpmhdioaa
open Go Go.RowKit K
theorem iHoursMissing_c (d : Int) (xs : List Student) (pa : Int) (le : Int) (sid : Int) (vxs : Value) (w : World) (zd : In64 d) (hGxs : ∀ y ∈ xs, GStudent y) (hsxs : SR w 5 vxs xs.length (flat encStudent xs)) (zpa : In64 pa) (zle : In64 le) (zsid : In64 sid) : Calls Try.prog 25 ([.agg (List.toArray (α := Value) [.int .i64 d, vxs, .int .i64 pa, .int .i64 le]), .int .i64 sid]).toArray w (fun e w' => e = .returned (.tuple #[.int .i64 (hmR (schoolB d xs pa le) xs sid).1, .bool (hmR (schoolB d xs pa le) xs sid).2]) ∧ Ext w w') := by
  obtain ⟨axs, capxs, rfl, hcapxs, hmaxxs⟩ := hsxs.slice
  have hlenxs := hsxs.len_le
  refine calls_ct Try.func25 Try.ntmps25 rfl rfl ?_
  refine ct_seq ?_
  refine ct_reg ?_
  refine rl_box rfl rfl (fun N1 => ?_)
  refine rl_val gw_none (ov_assign rfl) rfl ?_
  refine rl_val gw_none (ov_assign rfl) rfl ?_
  refine rl_nil ?_
  refine at_then ?_
  refine ct_seq ?_
  refine ct_reg ?_
  first | refine rl_val gw_none (ov_loadall 0 ag24 rfl rfl rfl) rfl ?_ | refine rl_val gw_none (ov_loada 0 ag24 rfl rfl rfl (by assumption)) rfl ?_
  refine rl_val gw_none (ov_move rfl) rfl ?_
  refine rl_callv gw_none goes64 rfl (fun w1 hp => at_c d xs pa le sid _ _ zd hGxs (hsxs.ext hp.ext0) zpa zle zsid) rfl ?_
  refine rl_val gw_none (ov_assign rfl) rfl ?_
  refine rl_nil ?_
  refine at_then ?_
  refine ct_seq ?_
  refine ct_seq ?_
  refine ct_reg ?_
  first | refine rl_val gw_none (ov_loadall 0 ag24 rfl rfl rfl) rfl ?_ | refine rl_val gw_none (ov_loada 0 ag24 rfl rfl rfl (by assumption)) rfl ?_
  refine rl_callv gw_none goes23 rfl (fun w1 hp => iIsSchool_c d xs pa le _ _ zd hGxs (hsxs.ext hp.ext0) zpa zle) rfl ?_
  refine rl_val gw_none (ov_not rfl) rfl ?_
  refine rl_val gw_none (ov_move rfl) rfl ?_
  refine rl_split (t := 13) rfl (fun g1 => ?_) (fun g1 => ?_)
  ·
    have hno : schoolB d xs pa le = false := by simpa using g1
    refine rl_skip (gw_not rfl rfl g1) rfl ?_
    refine rl_skip (gw_not rfl rfl g1) rfl ?_
    refine rl_val gw_none (ov_pick_t rfl g1 rfl) rfl ?_
    refine rl_val gw_none (ov_move rfl) rfl ?_
    refine rl_skip (gw_not rfl rfl rfl) rfl ?_
    refine rl_skip (gw_not rfl rfl rfl) rfl ?_
    refine rl_skip (gw_not rfl rfl rfl) rfl ?_
    refine rl_skip (gw_not rfl rfl rfl) rfl ?_
    refine rl_skip (gw_not rfl rfl rfl) rfl ?_
    refine rl_skip (gw_not rfl rfl rfl) rfl ?_
    refine rl_skip (gw_not rfl rfl rfl) rfl ?_
    refine rl_val gw_none (ov_pick_t rfl rfl rfl) rfl ?_
    refine rl_nil ?_
    refine at_then ?_
    refine ct_true rfl rfl ?_
    refine ct_seq ?_
    refine ct_reg ?_
    refine rl_val gw_none (ov_assign rfl) rfl ?_
    refine rl_val gw_none (ov_assign rfl) rfl ?_
    refine rl_nil ?_
    refine at_then ?_
    refine ct_ret ?_
    refine at_then_ret ?_
    refine at_ret2 Try.results25 (ro_tmp rfl) (ro_tmp rfl) (fun w1 hp => ?_)
    refine ⟨?_, hp.ext0⟩
    first | (rw [hmR_no hno]; done) | (rw [hmR_miss hms]; done) | (rw [hmR_top hok h0 hx (by simpa using h1)]; done) | (rw [hmR_yes hok h0 hx (by simpa using h1)]; done)
  ·
    have hok : schoolB d xs pa le = true := by simpa using g1
    refine rl_val (gw_some rfl rfl g1) (ov_move rfl) rfl ?_
    refine rl_val (gw_some rfl rfl g1) (ov_lss rfl rfl) rfl ?_
    refine rl_val gw_none (ov_pick_f rfl g1 rfl) rfl ?_
    refine rl_val gw_none (ov_move rfl) rfl ?_
    refine rl_split (t := 17) rfl (fun g2 => ?_) (fun g2 => ?_)
    ·
      have hms : findP (byId sid) xs < 0 := by simpa using g2
      refine rl_skip (gw_not rfl rfl g2) rfl ?_
      refine rl_skip (gw_not rfl rfl g2) rfl ?_
      refine rl_skip (gw_not rfl rfl g2) rfl ?_
      refine rl_skip (gw_not rfl rfl g2) rfl ?_
      refine rl_skip (gw_not rfl rfl g2) rfl ?_
      refine rl_skip (gw_not rfl rfl g2) rfl ?_
      refine rl_skip (gw_not rfl rfl g2) rfl ?_
      refine rl_val gw_none (ov_pick_t rfl g2 rfl) rfl ?_
      refine rl_nil ?_
      refine at_then ?_
      refine ct_true rfl rfl ?_
      refine ct_seq ?_
      refine ct_reg ?_
      refine rl_val gw_none (ov_assign rfl) rfl ?_
      refine rl_val gw_none (ov_assign rfl) rfl ?_
      refine rl_nil ?_
      refine at_then ?_
      refine ct_ret ?_
      refine at_then_ret ?_
      refine at_ret2 Try.results25 (ro_tmp rfl) (ro_tmp rfl) (fun w1 hp => ?_)
      refine ⟨?_, hp.ext0⟩
      first | (rw [hmR_no hno]; done) | (rw [hmR_miss hms]; done) | (rw [hmR_top hok h0 hx (by simpa using h1)]; done) | (rw [hmR_yes hok h0 hx (by simpa using h1)]; done)
    ·
      have h0 : ¬ findP (byId sid) xs < 0 := by simpa using g2
      obtain ⟨hlt, x, hx, hfx⟩ := findP_ge (show 0 ≤ findP (byId sid) xs by omega)
      have hsb := schoolB_at hok hx
      obtain ⟨b, o, rfl, hel⟩ := hsxs.elem encStudent_len (by omega) hlt
      have hcx := hel _ x hx
      obtain ⟨c0, c1, c2, c3, c4, _⟩ := hel _ x hx
      refine rl_val (gw_some rfl rfl g2) (ov_field fo24_1 rfl) rfl ?_
      first | refine rl_val (gw_some rfl rfl g2) (ov_load 0 sc22 rfl rfl rfl) rfl ?_ | refine rl_val (gw_some rfl rfl g2) (ov_load 0 sc22 rfl rfl (by assumption)) rfl ?_
      refine rl_val (gw_some rfl rfl g2) (ov_move rfl) rfl ?_
      first | refine rl_val (gw_some rfl rfl g2) (ov_ix Try.underlying22 sz69 rfl rfl _ rfl (by omega)) rfl ?_ | refine rl_val (gw_some rfl rfl g2) (ov_ix Try.underlying22 sz69 rfl rfl ((findP (byId sid) xs).toNat) (by omega) (by omega)) rfl ?_
      refine rl_val (gw_some rfl rfl g2) (ov_field fo69_1 rfl) rfl ?_
      first | refine rl_val (gw_some rfl rfl g2) (ov_load 0 sc3 rfl rfl rfl) rfl ?_ | refine rl_val (gw_some rfl rfl g2) (ov_load 1 sc3 rfl rfl rfl) rfl ?_ | refine rl_val (gw_some rfl rfl g2) (ov_load 2 sc3 rfl rfl rfl) rfl ?_ | refine rl_val (gw_some rfl rfl g2) (ov_load 3 sc3 rfl rfl rfl) rfl ?_ | refine rl_val (gw_some rfl rfl g2) (ov_loadw sc3 rfl (by assumption)) rfl ?_ | refine rl_val (gw_some rfl rfl g2) (ov_load 0 sc3 rfl rfl (by assumption)) rfl ?_ | refine rl_val (gw_some rfl rfl g2) (ov_load 1 sc3 rfl rfl (by assumption)) rfl ?_ | refine rl_val (gw_some rfl rfl g2) (ov_load 2 sc3 rfl rfl (by assumption)) rfl ?_ | refine rl_val (gw_some rfl rfl g2) (ov_load 3 sc3 rfl rfl (by assumption)) rfl ?_
      refine rl_val (gw_some rfl rfl g2) (ov_eql rfl rfl) rfl ?_
      refine rl_val gw_none (ov_pick_f rfl g2 rfl) rfl ?_
      refine rl_nil ?_
      refine at_then ?_
      first | refine ct_dec rfl (fun h1 => ?_) (fun h1 => ?_) | refine ct_ndec rfl (fun h1 => ?_) (fun h1 => ?_) | refine ct_eq rfl (fun h1 => ?_) (fun h1 => ?_) | refine ct_ne rfl (fun h1 => ?_) (fun h1 => ?_) | refine ct_not rfl (fun h1 => ?_) (fun h1 => ?_) | refine ct_cond rfl (fun h1 => ?_) (fun h1 => ?_)
      ·
        refine ct_seq ?_
        refine ct_reg ?_
        refine rl_val gw_none (ov_assign rfl) rfl ?_
        refine rl_val gw_none (ov_assign rfl) rfl ?_
        refine rl_nil ?_
        refine at_then ?_
        refine ct_ret ?_
        refine at_then_ret ?_
        refine at_ret2 Try.results25 (ro_tmp rfl) (ro_tmp rfl) (fun w1 hp => ?_)
        refine ⟨?_, hp.ext0⟩
        first | (rw [hmR_no hno]; done) | (rw [hmR_miss hms]; done) | (rw [hmR_top hok h0 hx (by simpa using h1)]; done) | (rw [hmR_yes hok h0 hx (by simpa using h1)]; done)
      ·
        refine ct_skip ?_
        refine at_then ?_
        refine ct_seq ?_
        refine ct_dr 17 (by kernel_rfl) (by kernel_rfl) ?_
        refine ql_val gw_none (ov_field fo24_1 rfl) rfl ?_
        first | refine ql_val gw_none (ov_load 0 sc22 rfl rfl rfl) rfl ?_ | refine ql_val gw_none (ov_load 0 sc22 rfl rfl (by assumption)) rfl ?_
        refine ql_val gw_none (ov_move rfl) rfl ?_
        first | refine ql_val gw_none (ov_ix Try.underlying22 sz69 rfl rfl _ rfl (by omega)) rfl ?_ | refine ql_val gw_none (ov_ix Try.underlying22 sz69 rfl rfl ((findP (byId sid) xs).toNat) (by omega) (by omega)) rfl ?_
        refine ql_val gw_none (ov_field fo69_1 rfl) rfl ?_
        first | refine ql_val gw_none (ov_load 0 sc3 rfl rfl rfl) rfl ?_ | refine ql_val gw_none (ov_load 1 sc3 rfl rfl rfl) rfl ?_ | refine ql_val gw_none (ov_load 2 sc3 rfl rfl rfl) rfl ?_ | refine ql_val gw_none (ov_load 3 sc3 rfl rfl rfl) rfl ?_ | refine ql_val gw_none (ov_loadw sc3 rfl (by assumption)) rfl ?_ | refine ql_val gw_none (ov_load 0 sc3 rfl rfl (by assumption)) rfl ?_ | refine ql_val gw_none (ov_load 1 sc3 rfl rfl (by assumption)) rfl ?_ | refine ql_val gw_none (ov_load 2 sc3 rfl rfl (by assumption)) rfl ?_ | refine ql_val gw_none (ov_load 3 sc3 rfl rfl (by assumption)) rfl ?_
        refine ql_callv gw_none goes65 rfl (fun w1 hp => wanted_c _ _ (by omega)) rfl ?_
        refine ql_val gw_none (ov_field fo24_1 rfl) rfl ?_
        first | refine ql_val gw_none (ov_load 0 sc22 rfl rfl rfl) rfl ?_ | refine ql_val gw_none (ov_load 0 sc22 rfl rfl (by assumption)) rfl ?_
        refine ql_val gw_none (ov_move rfl) rfl ?_
        first | refine ql_val gw_none (ov_ix Try.underlying22 sz69 rfl rfl _ rfl (by omega)) rfl ?_ | refine ql_val gw_none (ov_ix Try.underlying22 sz69 rfl rfl ((findP (byId sid) xs).toNat) (by omega) (by omega)) rfl ?_
        refine ql_val gw_none (ov_field fo69_2 rfl) rfl ?_
        first | refine ql_val gw_none (ov_load 0 sc3 rfl rfl rfl) rfl ?_ | refine ql_val gw_none (ov_load 1 sc3 rfl rfl rfl) rfl ?_ | refine ql_val gw_none (ov_load 2 sc3 rfl rfl rfl) rfl ?_ | refine ql_val gw_none (ov_load 3 sc3 rfl rfl rfl) rfl ?_ | refine ql_val gw_none (ov_loadw sc3 rfl (by assumption)) rfl ?_ | refine ql_val gw_none (ov_load 0 sc3 rfl rfl (by assumption)) rfl ?_ | refine ql_val gw_none (ov_load 1 sc3 rfl rfl (by assumption)) rfl ?_ | refine ql_val gw_none (ov_load 2 sc3 rfl rfl (by assumption)) rfl ?_ | refine ql_val gw_none (ov_load 3 sc3 rfl rfl (by assumption)) rfl ?_
        refine ql_val gw_none (ov_sub rfl rfl (by omega)) rfl ?_
        refine ql_val gw_none (ov_max rfl rfl) rfl ?_
        refine ql_val gw_none (ov_assign rfl) rfl ?_
        refine ql_val gw_none (ov_assign rfl) rfl ?_
        refine ql_nil ?_
        refine rl_nil ?_
        refine at_then ?_
        refine ct_ret ?_
        refine at_ret2 Try.results25 (ro_tmp rfl) (ro_tmp rfl) (fun w1 hp => ?_)
        refine ⟨?_, hp.ext0⟩
        first | (rw [hmR_no hno]; done) | (rw [hmR_miss hms]; done) | (rw [hmR_top hok h0 hx (by simpa using h1)]; done) | (rw [hmR_yes hok h0 hx (by simpa using h1)]; done)

theorem sHoursMissing_c (d : Int) (xs : List Student) (pa : Int) (le : Int) (sid : Int) (vxs : Value) (w : World) (zd : In64 d) (hGxs : ∀ y ∈ xs, GStudent y) (hsxs : SR w 5 vxs xs.length (flat encStudent xs)) (zpa : In64 pa) (zle : In64 le) (zsid : In64 sid) : Calls Try.prog 24 ([.agg (List.toArray (α := Value) [.int .i64 d, vxs, .int .i64 pa, .int .i64 le]), .int .i64 sid]).toArray w (fun e w' => e = .returned (.tuple #[.int .i64 (hmR (schoolB d xs pa le) xs sid).1, .bool (hmR (schoolB d xs pa le) xs sid).2]) ∧ Ext w w') := by
  obtain ⟨axs, capxs, rfl, hcapxs, hmaxxs⟩ := hsxs.slice
  have hlenxs := hsxs.len_le
  refine calls_ct Try.func24 Try.ntmps24 rfl rfl ?_
  refine ct_seq ?_
  refine ct_reg ?_
  refine rl_box rfl rfl (fun N1 => ?_)
  refine rl_val gw_none (ov_assign rfl) rfl ?_
  refine rl_val gw_none (ov_assign rfl) rfl ?_
  refine rl_nil ?_
  refine at_then ?_
  refine ct_seq ?_
  refine ct_reg ?_
  first | refine rl_val gw_none (ov_loadall 0 ag24 rfl rfl rfl) rfl ?_ | refine rl_val gw_none (ov_loada 0 ag24 rfl rfl rfl (by assumption)) rfl ?_
  refine rl_val gw_none (ov_move rfl) rfl ?_
  refine rl_callv gw_none goes61 rfl (fun w1 hp => l25Find_c d xs pa le sid _ _ zd hGxs (hsxs.ext hp.ext0) zpa zle zsid) rfl ?_
  refine rl_val gw_none (ov_assign rfl) rfl ?_
  refine rl_nil ?_
  refine at_then ?_
  refine ct_seq ?_
  refine ct_seq ?_
  refine ct_reg ?_
  first | refine rl_val gw_none (ov_loadall 0 ag24 rfl rfl rfl) rfl ?_ | refine rl_val gw_none (ov_loada 0 ag24 rfl rfl rfl (by assumption)) rfl ?_
  refine rl_callv gw_none goes57 rfl (fun w1 hp => l25Good_c d xs pa le _ _ zd hGxs (hsxs.ext hp.ext0) zpa zle) rfl ?_
  refine rl_val gw_none (ov_not rfl) rfl ?_
  refine rl_val gw_none (ov_move rfl) rfl ?_
  refine rl_split (t := 13) rfl (fun g1 => ?_) (fun g1 => ?_)
  ·
    have hno : schoolB d xs pa le = false := by simpa using g1
    refine rl_skip (gw_not rfl rfl g1) rfl ?_
    refine rl_skip (gw_not rfl rfl g1) rfl ?_
    refine rl_val gw_none (ov_pick_t rfl g1 rfl) rfl ?_
    refine rl_val gw_none (ov_move rfl) rfl ?_
    refine rl_skip (gw_not rfl rfl rfl) rfl ?_
    refine rl_skip (gw_not rfl rfl rfl) rfl ?_
    refine rl_skip (gw_not rfl rfl rfl) rfl ?_
    refine rl_skip (gw_not rfl rfl rfl) rfl ?_
    refine rl_skip (gw_not rfl rfl rfl) rfl ?_
    refine rl_skip (gw_not rfl rfl rfl) rfl ?_
    refine rl_skip (gw_not rfl rfl rfl) rfl ?_
    refine rl_val gw_none (ov_pick_t rfl rfl rfl) rfl ?_
    refine rl_nil ?_
    refine at_then ?_
    refine ct_true rfl rfl ?_
    refine ct_seq ?_
    refine ct_reg ?_
    refine rl_val gw_none (ov_assign rfl) rfl ?_
    refine rl_val gw_none (ov_assign rfl) rfl ?_
    refine rl_nil ?_
    refine at_then ?_
    refine ct_ret ?_
    refine at_then_ret ?_
    refine at_ret2 Try.results24 (ro_tmp rfl) (ro_tmp rfl) (fun w1 hp => ?_)
    refine ⟨?_, hp.ext0⟩
    first | (rw [hmR_no hno]; done) | (rw [hmR_miss hms]; done) | (rw [hmR_top hok h0 hx (by simpa using h1)]; done) | (rw [hmR_yes hok h0 hx (by simpa using h1)]; done)
  ·
    have hok : schoolB d xs pa le = true := by simpa using g1
    refine rl_val (gw_some rfl rfl g1) (ov_move rfl) rfl ?_
    refine rl_val (gw_some rfl rfl g1) (ov_lss rfl rfl) rfl ?_
    refine rl_val gw_none (ov_pick_f rfl g1 rfl) rfl ?_
    refine rl_val gw_none (ov_move rfl) rfl ?_
    refine rl_split (t := 17) rfl (fun g2 => ?_) (fun g2 => ?_)
    ·
      have hms : findP (byId sid) xs < 0 := by simpa using g2
      refine rl_skip (gw_not rfl rfl g2) rfl ?_
      refine rl_skip (gw_not rfl rfl g2) rfl ?_
      refine rl_skip (gw_not rfl rfl g2) rfl ?_
      refine rl_skip (gw_not rfl rfl g2) rfl ?_
      refine rl_skip (gw_not rfl rfl g2) rfl ?_
      refine rl_skip (gw_not rfl rfl g2) rfl ?_
      refine rl_skip (gw_not rfl rfl g2) rfl ?_
      refine rl_val gw_none (ov_pick_t rfl g2 rfl) rfl ?_
      refine rl_nil ?_
      refine at_then ?_
      refine ct_true rfl rfl ?_
      refine ct_seq ?_
      refine ct_reg ?_
      refine rl_val gw_none (ov_assign rfl) rfl ?_
      refine rl_val gw_none (ov_assign rfl) rfl ?_
      refine rl_nil ?_
      refine at_then ?_
      refine ct_ret ?_
      refine at_then_ret ?_
      refine at_ret2 Try.results24 (ro_tmp rfl) (ro_tmp rfl) (fun w1 hp => ?_)
      refine ⟨?_, hp.ext0⟩
      first | (rw [hmR_no hno]; done) | (rw [hmR_miss hms]; done) | (rw [hmR_top hok h0 hx (by simpa using h1)]; done) | (rw [hmR_yes hok h0 hx (by simpa using h1)]; done)
    ·
      have h0 : ¬ findP (byId sid) xs < 0 := by simpa using g2
      obtain ⟨hlt, x, hx, hfx⟩ := findP_ge (show 0 ≤ findP (byId sid) xs by omega)
      have hsb := schoolB_at hok hx
      obtain ⟨b, o, rfl, hel⟩ := hsxs.elem encStudent_len (by omega) hlt
      have hcx := hel _ x hx
      obtain ⟨c0, c1, c2, c3, c4, _⟩ := hel _ x hx
      refine rl_val (gw_some rfl rfl g2) (ov_field fo24_1 rfl) rfl ?_
      first | refine rl_val (gw_some rfl rfl g2) (ov_load 0 sc22 rfl rfl rfl) rfl ?_ | refine rl_val (gw_some rfl rfl g2) (ov_load 0 sc22 rfl rfl (by assumption)) rfl ?_
      refine rl_val (gw_some rfl rfl g2) (ov_move rfl) rfl ?_
      first | refine rl_val (gw_some rfl rfl g2) (ov_ix Try.underlying22 sz69 rfl rfl _ rfl (by omega)) rfl ?_ | refine rl_val (gw_some rfl rfl g2) (ov_ix Try.underlying22 sz69 rfl rfl ((findP (byId sid) xs).toNat) (by omega) (by omega)) rfl ?_
      refine rl_val (gw_some rfl rfl g2) (ov_field fo69_1 rfl) rfl ?_
      first | refine rl_val (gw_some rfl rfl g2) (ov_load 0 sc3 rfl rfl rfl) rfl ?_ | refine rl_val (gw_some rfl rfl g2) (ov_load 1 sc3 rfl rfl rfl) rfl ?_ | refine rl_val (gw_some rfl rfl g2) (ov_load 2 sc3 rfl rfl rfl) rfl ?_ | refine rl_val (gw_some rfl rfl g2) (ov_load 3 sc3 rfl rfl rfl) rfl ?_ | refine rl_val (gw_some rfl rfl g2) (ov_loadw sc3 rfl (by assumption)) rfl ?_ | refine rl_val (gw_some rfl rfl g2) (ov_load 0 sc3 rfl rfl (by assumption)) rfl ?_ | refine rl_val (gw_some rfl rfl g2) (ov_load 1 sc3 rfl rfl (by assumption)) rfl ?_ | refine rl_val (gw_some rfl rfl g2) (ov_load 2 sc3 rfl rfl (by assumption)) rfl ?_ | refine rl_val (gw_some rfl rfl g2) (ov_load 3 sc3 rfl rfl (by assumption)) rfl ?_
      refine rl_val (gw_some rfl rfl g2) (ov_eql rfl rfl) rfl ?_
      refine rl_val gw_none (ov_pick_f rfl g2 rfl) rfl ?_
      refine rl_nil ?_
      refine at_then ?_
      first | refine ct_dec rfl (fun h1 => ?_) (fun h1 => ?_) | refine ct_ndec rfl (fun h1 => ?_) (fun h1 => ?_) | refine ct_eq rfl (fun h1 => ?_) (fun h1 => ?_) | refine ct_ne rfl (fun h1 => ?_) (fun h1 => ?_) | refine ct_not rfl (fun h1 => ?_) (fun h1 => ?_) | refine ct_cond rfl (fun h1 => ?_) (fun h1 => ?_)
      ·
        refine ct_seq ?_
        refine ct_reg ?_
        refine rl_val gw_none (ov_assign rfl) rfl ?_
        refine rl_val gw_none (ov_assign rfl) rfl ?_
        refine rl_nil ?_
        refine at_then ?_
        refine ct_ret ?_
        refine at_then_ret ?_
        refine at_ret2 Try.results24 (ro_tmp rfl) (ro_tmp rfl) (fun w1 hp => ?_)
        refine ⟨?_, hp.ext0⟩
        first | (rw [hmR_no hno]; done) | (rw [hmR_miss hms]; done) | (rw [hmR_top hok h0 hx (by simpa using h1)]; done) | (rw [hmR_yes hok h0 hx (by simpa using h1)]; done)
      ·
        refine ct_skip ?_
        refine at_then ?_
        refine ct_seq ?_
        refine ct_dr 17 (by kernel_rfl) (by kernel_rfl) ?_
        refine ql_val gw_none (ov_field fo24_1 rfl) rfl ?_
        first | refine ql_val gw_none (ov_load 0 sc22 rfl rfl rfl) rfl ?_ | refine ql_val gw_none (ov_load 0 sc22 rfl rfl (by assumption)) rfl ?_
        refine ql_val gw_none (ov_move rfl) rfl ?_
        first | refine ql_val gw_none (ov_ix Try.underlying22 sz69 rfl rfl _ rfl (by omega)) rfl ?_ | refine ql_val gw_none (ov_ix Try.underlying22 sz69 rfl rfl ((findP (byId sid) xs).toNat) (by omega) (by omega)) rfl ?_
        refine ql_val gw_none (ov_field fo69_1 rfl) rfl ?_
        first | refine ql_val gw_none (ov_load 0 sc3 rfl rfl rfl) rfl ?_ | refine ql_val gw_none (ov_load 1 sc3 rfl rfl rfl) rfl ?_ | refine ql_val gw_none (ov_load 2 sc3 rfl rfl rfl) rfl ?_ | refine ql_val gw_none (ov_load 3 sc3 rfl rfl rfl) rfl ?_ | refine ql_val gw_none (ov_loadw sc3 rfl (by assumption)) rfl ?_ | refine ql_val gw_none (ov_load 0 sc3 rfl rfl (by assumption)) rfl ?_ | refine ql_val gw_none (ov_load 1 sc3 rfl rfl (by assumption)) rfl ?_ | refine ql_val gw_none (ov_load 2 sc3 rfl rfl (by assumption)) rfl ?_ | refine ql_val gw_none (ov_load 3 sc3 rfl rfl (by assumption)) rfl ?_
        refine ql_callv gw_none goes63 rfl (fun w1 hp => l25Wanted_c _ _ (by omega)) rfl ?_
        refine ql_val gw_none (ov_field fo24_1 rfl) rfl ?_
        first | refine ql_val gw_none (ov_load 0 sc22 rfl rfl rfl) rfl ?_ | refine ql_val gw_none (ov_load 0 sc22 rfl rfl (by assumption)) rfl ?_
        refine ql_val gw_none (ov_move rfl) rfl ?_
        first | refine ql_val gw_none (ov_ix Try.underlying22 sz69 rfl rfl _ rfl (by omega)) rfl ?_ | refine ql_val gw_none (ov_ix Try.underlying22 sz69 rfl rfl ((findP (byId sid) xs).toNat) (by omega) (by omega)) rfl ?_
        refine ql_val gw_none (ov_field fo69_2 rfl) rfl ?_
        first | refine ql_val gw_none (ov_load 0 sc3 rfl rfl rfl) rfl ?_ | refine ql_val gw_none (ov_load 1 sc3 rfl rfl rfl) rfl ?_ | refine ql_val gw_none (ov_load 2 sc3 rfl rfl rfl) rfl ?_ | refine ql_val gw_none (ov_load 3 sc3 rfl rfl rfl) rfl ?_ | refine ql_val gw_none (ov_loadw sc3 rfl (by assumption)) rfl ?_ | refine ql_val gw_none (ov_load 0 sc3 rfl rfl (by assumption)) rfl ?_ | refine ql_val gw_none (ov_load 1 sc3 rfl rfl (by assumption)) rfl ?_ | refine ql_val gw_none (ov_load 2 sc3 rfl rfl (by assumption)) rfl ?_ | refine ql_val gw_none (ov_load 3 sc3 rfl rfl (by assumption)) rfl ?_
        refine ql_val gw_none (ov_sub rfl rfl (by omega)) rfl ?_
        refine ql_callv gw_none goes62 rfl (fun w1 hp => l1Most_c _ _ _) rfl ?_
        refine ql_val gw_none (ov_assign rfl) rfl ?_
        refine ql_val gw_none (ov_assign rfl) rfl ?_
        refine ql_nil ?_
        refine rl_nil ?_
        refine at_then ?_
        refine ct_ret ?_
        refine at_ret2 Try.results24 (ro_tmp rfl) (ro_tmp rfl) (fun w1 hp => ?_)
        refine ⟨?_, hp.ext0⟩
        first | (rw [hmR_no hno]; done) | (rw [hmR_miss hms]; done) | (rw [hmR_top hok h0 hx (by simpa using h1)]; done) | (rw [hmR_yes hok h0 hx (by simpa using h1)]; done)
end Go.Proofs.Ytacaoicpmhdioaa
