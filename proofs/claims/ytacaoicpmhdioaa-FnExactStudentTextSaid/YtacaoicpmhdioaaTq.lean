import Derived.Test.YtacaoicpmhdioaaTp
import Derived.Test.YtacaoicpmhdioaaTl
import Derived.KernelRfl
set_option linter.unusedVariables false
set_option linter.unusedSimpArgs false
namespace Go.Proofs.Ytacaoicpmhdioaa
open Go Go.RowKit K
def studL (x : Student) : List UInt8 := [103, 114, 97, 100, 101, 32] ++ numL x.grade.toNat ++ [32, 104, 111, 117, 114, 115, 32] ++ numL x.hours.toNat ++ [32, 112, 97, 105, 100, 32] ++ numL x.paid.toNat ++ [32, 102, 97, 105, 108, 115, 32] ++ numL x.fails.toNat
def studR (ok : Bool) (xs : List Student) (sid : Int) : List UInt8 × Bool :=
  if ok = true ∧ 0 ≤ findP (byId sid) xs then (match xs[(findP (byId sid) xs).toNat]? with | some x => (studL x, true) | none => ([], false)) else ([], false)
theorem studR_no {ok : Bool} {xs : List Student} {sid : Int} (h : ok = false) : studR ok xs sid = ([], false) := by rw [studR, if_neg (by rw [h]; simp)]
theorem studR_miss {ok : Bool} {xs : List Student} {sid : Int} (h : findP (byId sid) xs < 0) : studR ok xs sid = ([], false) := by rw [studR, if_neg (by omega)]
theorem studR_yes {ok : Bool} {xs : List Student} {sid : Int} {x : Student} (h : ok = true) (h0 : ¬ findP (byId sid) xs < 0) (hx : xs[(findP (byId sid) xs).toNat]? = some x) : studR ok xs sid = (studL x, true) := by rw [studR, if_pos ⟨h, by omega⟩, hx]

theorem l25Text_c (x : Student) (w : World) (hb : (0 ≤ x.grade ∧ x.grade ≤ 10) ∧ (0 ≤ x.hours ∧ x.hours ≤ 999) ∧ (0 ≤ x.paid ∧ x.paid ≤ 4365) ∧ (0 ≤ x.fails ∧ x.fails ≤ 9)) : Calls Try.prog 66 ([.agg (encStudent x).toArray]).toArray w (fun e w' => e = .returned (.string (bs (studL x))) ∧ Ext w w') := by
  have hlgrade := numL_len (n := x.grade.toNat) (by omega)
  have hlhours := numL_len (n := x.hours.toNat) (by omega)
  have hlpaid := numL_len (n := x.paid.toNat) (by omega)
  have hlfails := numL_len (n := x.fails.toNat) (by omega)
  refine calls_ct Try.func66 Try.ntmps66 rfl rfl ?_
  refine ct_seq ?_
  refine ct_reg ?_
  refine rl_box rfl rfl (fun N1 => ?_)
  refine rl_val gw_none (ov_assign rfl) rfl ?_
  refine rl_nil ?_
  refine at_then ?_
  refine ct_seq ?_
  refine ct_dr 20 (by kernel_rfl) (by kernel_rfl) ?_
  refine ql_val gw_none (ov_field fo69_1 rfl) rfl ?_
  first | refine ql_val gw_none (ov_load 0 sc3 rfl rfl rfl) rfl ?_ | refine ql_val gw_none (ov_load 0 sc3 rfl rfl (by assumption)) rfl ?_
  refine ql_callv gw_none goes77 rfl (fun w1 hp => l1Num_c x.grade.toNat _ _ (by omega) (by omega)) rfl ?_
  refine ql_val gw_none (ov_sadd rfl rfl (by first | omega | (simp; omega))) rfl ?_
  refine ql_val gw_none (ov_sadd rfl rfl (by first | omega | (simp; omega))) rfl ?_
  refine ql_val gw_none (ov_field fo69_2 rfl) rfl ?_
  first | refine ql_val gw_none (ov_load 0 sc3 rfl rfl rfl) rfl ?_ | refine ql_val gw_none (ov_load 0 sc3 rfl rfl (by assumption)) rfl ?_
  refine ql_callv gw_none goes77 rfl (fun w1 hp => l1Num_c x.hours.toNat _ _ (by omega) (by omega)) rfl ?_
  refine ql_val gw_none (ov_sadd rfl rfl (by first | omega | (simp; omega))) rfl ?_
  refine ql_val gw_none (ov_sadd rfl rfl (by first | omega | (simp; omega))) rfl ?_
  refine ql_val gw_none (ov_field fo69_3 rfl) rfl ?_
  first | refine ql_val gw_none (ov_load 0 sc3 rfl rfl rfl) rfl ?_ | refine ql_val gw_none (ov_load 0 sc3 rfl rfl (by assumption)) rfl ?_
  refine ql_callv gw_none goes77 rfl (fun w1 hp => l1Num_c x.paid.toNat _ _ (by omega) (by omega)) rfl ?_
  refine ql_val gw_none (ov_sadd rfl rfl (by first | omega | (simp; omega))) rfl ?_
  refine ql_val gw_none (ov_sadd rfl rfl (by first | omega | (simp; omega))) rfl ?_
  refine ql_val gw_none (ov_field fo69_4 rfl) rfl ?_
  first | refine ql_val gw_none (ov_load 0 sc3 rfl rfl rfl) rfl ?_ | refine ql_val gw_none (ov_load 0 sc3 rfl rfl (by assumption)) rfl ?_
  refine ql_callv gw_none goes77 rfl (fun w1 hp => l1Num_c x.fails.toNat _ _ (by omega) (by omega)) rfl ?_
  refine ql_val gw_none (ov_sadd rfl rfl (by first | omega | (simp; omega))) rfl ?_
  refine ql_val gw_none (ov_assign rfl) rfl ?_
  refine ql_nil ?_
  refine rl_nil ?_
  refine at_then ?_
  refine ct_ret ?_
  refine at_ret1 Try.results66 (ro_tmp rfl) (fun w1 hp => ?_)
  exact ⟨rfl, hp.ext0⟩

theorem iStudentText_c (d : Int) (xs : List Student) (pa : Int) (le : Int) (sid : Int) (vxs : Value) (w : World) (zd : In64 d) (hGxs : ∀ y ∈ xs, GStudent y) (hsxs : SR w 5 vxs xs.length (flat encStudent xs)) (zpa : In64 pa) (zle : In64 le) (zsid : In64 sid) : Calls Try.prog 27 ([.agg (List.toArray (α := Value) [.int .i64 d, vxs, .int .i64 pa, .int .i64 le]), .int .i64 sid]).toArray w (fun e w' => e = .returned (.tuple #[.string (bs (studR (schoolB d xs pa le) xs sid).1), .bool (studR (schoolB d xs pa le) xs sid).2]) ∧ Ext w w') := by
  obtain ⟨axs, capxs, rfl, hcapxs, hmaxxs⟩ := hsxs.slice
  have hlenxs := hsxs.len_le
  refine calls_ct Try.func27 Try.ntmps27 rfl rfl ?_
  refine ct_seq ?_
  refine ct_reg ?_
  refine rl_box rfl rfl (fun N1 => ?_)
  refine rl_val gw_none (ov_assign rfl) rfl ?_
  refine rl_val gw_none (ov_assign rfl) rfl ?_
  refine rl_nil ?_
  refine at_then ?_
  refine ct_seq ?_
  refine ct_reg ?_
  first | refine rl_val gw_none (ov_loadall 0 ag24 rfl rfl rfl) rfl ?_ | refine rl_val gw_none (ov_loada 0 ag24 rfl rfl rfl (by assumption)) rfl ?_
  refine rl_val gw_none (ov_move rfl) rfl ?_
  refine rl_callv gw_none goes64 rfl (fun w1 hp => at_c d xs pa le sid _ _ zd hGxs (hsxs.ext hp.ext0) zpa zle zsid) rfl ?_
  refine rl_val gw_none (ov_assign rfl) rfl ?_
  refine rl_nil ?_
  refine at_then ?_
  refine ct_seq ?_
  refine ct_seq ?_
  refine ct_reg ?_
  first | refine rl_val gw_none (ov_loadall 0 ag24 rfl rfl rfl) rfl ?_ | refine rl_val gw_none (ov_loada 0 ag24 rfl rfl rfl (by assumption)) rfl ?_
  refine rl_callv gw_none goes23 rfl (fun w1 hp => iIsSchool_c d xs pa le _ _ zd hGxs (hsxs.ext hp.ext0) zpa zle) rfl ?_
  refine rl_val gw_none (ov_not rfl) rfl ?_
  refine rl_val gw_none (ov_move rfl) rfl ?_
  refine rl_split (t := 14) rfl (fun g1 => ?_) (fun g1 => ?_)
  ·
    have hno : schoolB d xs pa le = false := by simpa using g1
    refine rl_skip (gw_not rfl rfl g1) rfl ?_
    refine rl_skip (gw_not rfl rfl g1) rfl ?_
    refine rl_val gw_none (ov_pick_t rfl g1 rfl) rfl ?_
    refine rl_nil ?_
    refine at_then ?_
    refine ct_true rfl rfl ?_
    refine ct_seq ?_
    refine ct_reg ?_
    refine rl_val gw_none (ov_assign rfl) rfl ?_
    refine rl_val gw_none (ov_assign rfl) rfl ?_
    refine rl_nil ?_
    refine at_then ?_
    refine ct_ret ?_
    refine at_then_ret ?_
    refine at_ret2 Try.results27 (ro_tmp rfl) (ro_tmp rfl) (fun w1 hp => ?_)
    refine ⟨?_, hp.ext0⟩
    first | (rw [studR_no hno]; first | done | rfl) | (rw [studR_miss hms]; first | done | rfl) | (rw [studR_yes hok h0 hx]; first | done | rfl)
  ·
    have hok : schoolB d xs pa le = true := by simpa using g1
    refine rl_val (gw_some rfl rfl g1) (ov_move rfl) rfl ?_
    refine rl_val (gw_some rfl rfl g1) (ov_lss rfl rfl) rfl ?_
    refine rl_val gw_none (ov_pick_f rfl g1 rfl) rfl ?_
    refine rl_nil ?_
    refine at_then ?_
    first | refine ct_dec rfl (fun h1 => ?_) (fun h1 => ?_) | refine ct_ndec rfl (fun h1 => ?_) (fun h1 => ?_) | refine ct_eq rfl (fun h1 => ?_) (fun h1 => ?_) | refine ct_ne rfl (fun h1 => ?_) (fun h1 => ?_) | refine ct_not rfl (fun h1 => ?_) (fun h1 => ?_) | refine ct_cond rfl (fun h1 => ?_) (fun h1 => ?_)
    ·
      have hms : findP (byId sid) xs < 0 := by simpa using h1
      refine ct_seq ?_
      refine ct_reg ?_
      refine rl_val gw_none (ov_assign rfl) rfl ?_
      refine rl_val gw_none (ov_assign rfl) rfl ?_
      refine rl_nil ?_
      refine at_then ?_
      refine ct_ret ?_
      refine at_then_ret ?_
      refine at_ret2 Try.results27 (ro_tmp rfl) (ro_tmp rfl) (fun w1 hp => ?_)
      refine ⟨?_, hp.ext0⟩
      first | (rw [studR_no hno]; first | done | rfl) | (rw [studR_miss hms]; first | done | rfl) | (rw [studR_yes hok h0 hx]; first | done | rfl)
    ·
      have h0 : ¬ findP (byId sid) xs < 0 := by simpa using h1
      obtain ⟨hlt, x, hx, hfx⟩ := findP_ge (show 0 ≤ findP (byId sid) xs by omega)
      have hsb := schoolB_at hok hx
      obtain ⟨b, o, rfl, hel⟩ := hsxs.elem encStudent_len (by omega) hlt
      have hcx := hel _ x hx
      obtain ⟨c0, c1, c2, c3, c4, _⟩ := hel _ x hx
      have hlgrade := numL_len (n := x.grade.toNat) (by omega)
      have hlhours := numL_len (n := x.hours.toNat) (by omega)
      have hlpaid := numL_len (n := x.paid.toNat) (by omega)
      have hlfails := numL_len (n := x.fails.toNat) (by omega)
      refine ct_skip ?_
      refine at_then ?_
      refine ct_seq ?_
      refine ct_reg ?_
      refine rl_val gw_none (ov_field fo24_1 rfl) rfl ?_
      first | refine rl_val gw_none (ov_load 0 sc22 rfl rfl rfl) rfl ?_ | refine rl_val gw_none (ov_load 0 sc22 rfl rfl (by assumption)) rfl ?_
      refine rl_val gw_none (ov_move rfl) rfl ?_
      first | refine rl_val gw_none (ov_ix Try.underlying22 sz69 rfl rfl _ rfl (by omega)) rfl ?_ | refine rl_val gw_none (ov_ix Try.underlying22 sz69 rfl rfl ((findP (byId sid) xs).toNat) (by omega) (by omega)) rfl ?_
      first | refine rl_val gw_none (ov_loadaw ag69 rfl rfl (by assumption)) rfl ?_ | refine rl_val gw_none (ov_loadall 0 ag69 rfl rfl rfl) rfl ?_ | refine rl_val gw_none (ov_loadall 1 ag69 rfl rfl rfl) rfl ?_ | refine rl_val gw_none (ov_loadall 2 ag69 rfl rfl rfl) rfl ?_ | refine rl_val gw_none (ov_loadall 3 ag69 rfl rfl rfl) rfl ?_
      refine rl_alloc ze69 rfl (fun N2 => ?_)
      refine rl_store [] sz69 rfl rfl rfl rfl rfl (Nat.le_of_ble_eq_true rfl) ?_
      refine rl_nil ?_
      refine at_then ?_
      refine ct_seq ?_
      refine ct_dr 21 (by kernel_rfl) (by kernel_rfl) ?_
      refine ql_val gw_none (ov_field fo69_1 rfl) rfl ?_
      first | refine ql_val gw_none (ov_load 0 sc3 rfl rfl rfl) rfl ?_ | refine ql_val gw_none (ov_load 0 sc3 rfl rfl (by assumption)) rfl ?_
      refine ql_callv gw_none goes67 rfl (fun w1 hp => text_c x.grade.toNat _ _ (by omega) (by omega)) rfl ?_
      refine ql_val gw_none (ov_sadd rfl rfl (by first | omega | (simp; omega))) rfl ?_
      refine ql_val gw_none (ov_sadd rfl rfl (by first | omega | (simp; omega))) rfl ?_
      refine ql_val gw_none (ov_field fo69_2 rfl) rfl ?_
      first | refine ql_val gw_none (ov_load 0 sc3 rfl rfl rfl) rfl ?_ | refine ql_val gw_none (ov_load 0 sc3 rfl rfl (by assumption)) rfl ?_
      refine ql_callv gw_none goes67 rfl (fun w1 hp => text_c x.hours.toNat _ _ (by omega) (by omega)) rfl ?_
      refine ql_val gw_none (ov_sadd rfl rfl (by first | omega | (simp; omega))) rfl ?_
      refine ql_val gw_none (ov_sadd rfl rfl (by first | omega | (simp; omega))) rfl ?_
      refine ql_val gw_none (ov_field fo69_3 rfl) rfl ?_
      first | refine ql_val gw_none (ov_load 0 sc3 rfl rfl rfl) rfl ?_ | refine ql_val gw_none (ov_load 0 sc3 rfl rfl (by assumption)) rfl ?_
      refine ql_callv gw_none goes67 rfl (fun w1 hp => text_c x.paid.toNat _ _ (by omega) (by omega)) rfl ?_
      refine ql_val gw_none (ov_sadd rfl rfl (by first | omega | (simp; omega))) rfl ?_
      refine ql_val gw_none (ov_sadd rfl rfl (by first | omega | (simp; omega))) rfl ?_
      refine ql_val gw_none (ov_field fo69_4 rfl) rfl ?_
      first | refine ql_val gw_none (ov_load 0 sc3 rfl rfl rfl) rfl ?_ | refine ql_val gw_none (ov_load 0 sc3 rfl rfl (by assumption)) rfl ?_
      refine ql_callv gw_none goes67 rfl (fun w1 hp => text_c x.fails.toNat _ _ (by omega) (by omega)) rfl ?_
      refine ql_val gw_none (ov_sadd rfl rfl (by first | omega | (simp; omega))) rfl ?_
      refine ql_val gw_none (ov_assign rfl) rfl ?_
      refine ql_val gw_none (ov_assign rfl) rfl ?_
      refine ql_nil ?_
      refine rl_nil ?_
      refine at_then ?_
      refine ct_ret ?_
      refine at_ret2 Try.results27 (ro_tmp rfl) (ro_tmp rfl) (fun w1 hp => ?_)
      refine ⟨?_, hp.ext0⟩
      first | (rw [studR_no hno]; first | done | rfl) | (rw [studR_miss hms]; first | done | rfl) | (rw [studR_yes hok h0 hx]; first | done | rfl)

theorem sStudentText_c (d : Int) (xs : List Student) (pa : Int) (le : Int) (sid : Int) (vxs : Value) (w : World) (zd : In64 d) (hGxs : ∀ y ∈ xs, GStudent y) (hsxs : SR w 5 vxs xs.length (flat encStudent xs)) (zpa : In64 pa) (zle : In64 le) (zsid : In64 sid) : Calls Try.prog 26 ([.agg (List.toArray (α := Value) [.int .i64 d, vxs, .int .i64 pa, .int .i64 le]), .int .i64 sid]).toArray w (fun e w' => e = .returned (.tuple #[.string (bs (studR (schoolB d xs pa le) xs sid).1), .bool (studR (schoolB d xs pa le) xs sid).2]) ∧ Ext w w') := by
  obtain ⟨axs, capxs, rfl, hcapxs, hmaxxs⟩ := hsxs.slice
  have hlenxs := hsxs.len_le
  refine calls_ct Try.func26 Try.ntmps26 rfl rfl ?_
  refine ct_seq ?_
  refine ct_reg ?_
  refine rl_box rfl rfl (fun N1 => ?_)
  refine rl_val gw_none (ov_assign rfl) rfl ?_
  refine rl_val gw_none (ov_assign rfl) rfl ?_
  refine rl_nil ?_
  refine at_then ?_
  refine ct_seq ?_
  refine ct_reg ?_
  first | refine rl_val gw_none (ov_loadall 0 ag24 rfl rfl rfl) rfl ?_ | refine rl_val gw_none (ov_loada 0 ag24 rfl rfl rfl (by assumption)) rfl ?_
  refine rl_val gw_none (ov_move rfl) rfl ?_
  refine rl_callv gw_none goes61 rfl (fun w1 hp => l25Find_c d xs pa le sid _ _ zd hGxs (hsxs.ext hp.ext0) zpa zle zsid) rfl ?_
  refine rl_val gw_none (ov_assign rfl) rfl ?_
  refine rl_nil ?_
  refine at_then ?_
  refine ct_seq ?_
  refine ct_seq ?_
  refine ct_reg ?_
  first | refine rl_val gw_none (ov_loadall 0 ag24 rfl rfl rfl) rfl ?_ | refine rl_val gw_none (ov_loada 0 ag24 rfl rfl rfl (by assumption)) rfl ?_
  refine rl_callv gw_none goes57 rfl (fun w1 hp => l25Good_c d xs pa le _ _ zd hGxs (hsxs.ext hp.ext0) zpa zle) rfl ?_
  refine rl_val gw_none (ov_not rfl) rfl ?_
  refine rl_val gw_none (ov_move rfl) rfl ?_
  refine rl_split (t := 13) rfl (fun g1 => ?_) (fun g1 => ?_)
  ·
    have hno : schoolB d xs pa le = false := by simpa using g1
    refine rl_skip (gw_not rfl rfl g1) rfl ?_
    refine rl_skip (gw_not rfl rfl g1) rfl ?_
    refine rl_val gw_none (ov_pick_t rfl g1 rfl) rfl ?_
    refine rl_nil ?_
    refine at_then ?_
    refine ct_true rfl rfl ?_
    refine ct_seq ?_
    refine ct_reg ?_
    refine rl_val gw_none (ov_assign rfl) rfl ?_
    refine rl_val gw_none (ov_assign rfl) rfl ?_
    refine rl_nil ?_
    refine at_then ?_
    refine ct_ret ?_
    refine at_then_ret ?_
    refine at_ret2 Try.results26 (ro_tmp rfl) (ro_tmp rfl) (fun w1 hp => ?_)
    refine ⟨?_, hp.ext0⟩
    first | (rw [studR_no hno]; first | done | rfl) | (rw [studR_miss hms]; first | done | rfl) | (rw [studR_yes hok h0 hx]; first | done | rfl)
  ·
    have hok : schoolB d xs pa le = true := by simpa using g1
    refine rl_val (gw_some rfl rfl g1) (ov_move rfl) rfl ?_
    refine rl_val (gw_some rfl rfl g1) (ov_lss rfl rfl) rfl ?_
    refine rl_val gw_none (ov_pick_f rfl g1 rfl) rfl ?_
    refine rl_nil ?_
    refine at_then ?_
    first | refine ct_dec rfl (fun h1 => ?_) (fun h1 => ?_) | refine ct_ndec rfl (fun h1 => ?_) (fun h1 => ?_) | refine ct_eq rfl (fun h1 => ?_) (fun h1 => ?_) | refine ct_ne rfl (fun h1 => ?_) (fun h1 => ?_) | refine ct_not rfl (fun h1 => ?_) (fun h1 => ?_) | refine ct_cond rfl (fun h1 => ?_) (fun h1 => ?_)
    ·
      have hms : findP (byId sid) xs < 0 := by simpa using h1
      refine ct_seq ?_
      refine ct_reg ?_
      refine rl_val gw_none (ov_assign rfl) rfl ?_
      refine rl_val gw_none (ov_assign rfl) rfl ?_
      refine rl_nil ?_
      refine at_then ?_
      refine ct_ret ?_
      refine at_then_ret ?_
      refine at_ret2 Try.results26 (ro_tmp rfl) (ro_tmp rfl) (fun w1 hp => ?_)
      refine ⟨?_, hp.ext0⟩
      first | (rw [studR_no hno]; first | done | rfl) | (rw [studR_miss hms]; first | done | rfl) | (rw [studR_yes hok h0 hx]; first | done | rfl)
    ·
      have h0 : ¬ findP (byId sid) xs < 0 := by simpa using h1
      obtain ⟨hlt, x, hx, hfx⟩ := findP_ge (show 0 ≤ findP (byId sid) xs by omega)
      have hsb := schoolB_at hok hx
      obtain ⟨b, o, rfl, hel⟩ := hsxs.elem encStudent_len (by omega) hlt
      have hcx := hel _ x hx
      obtain ⟨c0, c1, c2, c3, c4, _⟩ := hel _ x hx
      have hlgrade := numL_len (n := x.grade.toNat) (by omega)
      have hlhours := numL_len (n := x.hours.toNat) (by omega)
      have hlpaid := numL_len (n := x.paid.toNat) (by omega)
      have hlfails := numL_len (n := x.fails.toNat) (by omega)
      refine ct_skip ?_
      refine at_then ?_
      refine ct_seq ?_
      refine ct_reg ?_
      refine rl_val gw_none (ov_field fo24_1 rfl) rfl ?_
      first | refine rl_val gw_none (ov_load 0 sc22 rfl rfl rfl) rfl ?_ | refine rl_val gw_none (ov_load 0 sc22 rfl rfl (by assumption)) rfl ?_
      refine rl_val gw_none (ov_move rfl) rfl ?_
      first | refine rl_val gw_none (ov_ix Try.underlying22 sz69 rfl rfl _ rfl (by omega)) rfl ?_ | refine rl_val gw_none (ov_ix Try.underlying22 sz69 rfl rfl ((findP (byId sid) xs).toNat) (by omega) (by omega)) rfl ?_
      first | refine rl_val gw_none (ov_loadaw ag69 rfl rfl (by assumption)) rfl ?_ | refine rl_val gw_none (ov_loadall 0 ag69 rfl rfl rfl) rfl ?_ | refine rl_val gw_none (ov_loadall 1 ag69 rfl rfl rfl) rfl ?_ | refine rl_val gw_none (ov_loadall 2 ag69 rfl rfl rfl) rfl ?_ | refine rl_val gw_none (ov_loadall 3 ag69 rfl rfl rfl) rfl ?_
      refine rl_callv gw_none goes66 rfl (fun w1 hp => l25Text_c x _ hsb.2) rfl ?_
      refine rl_val gw_none (ov_assign rfl) rfl ?_
      refine rl_val gw_none (ov_assign rfl) rfl ?_
      refine rl_nil ?_
      refine at_then ?_
      refine ct_ret ?_
      refine at_ret2 Try.results26 (ro_tmp rfl) (ro_tmp rfl) (fun w1 hp => ?_)
      refine ⟨?_, hp.ext0⟩
      first | (rw [studR_no hno]; first | done | rfl) | (rw [studR_miss hms]; first | done | rfl) | (rw [studR_yes hok h0 hx]; first | done | rfl)
end Go.Proofs.Ytacaoicpmhdioaa
