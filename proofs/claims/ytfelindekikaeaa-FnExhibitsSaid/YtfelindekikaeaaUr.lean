import Derived.Test.YtfelindekikaeaaUp
import Derived.KernelRfl
set_option linter.unusedVariables false
set_option linter.unusedSimpArgs false
namespace Go.Proofs.Ytfelindekikaeaa
open Go Go.RowKit K
theorem iExhibitText_c (x : Exhibit) (w : World) (hg : GExhibit x) : Calls Try.prog 33 ([.agg (encExhibit x).toArray]).toArray w (fun e w' => e = .returned (.tuple #[.string (bs (extR x)), .bool (exhB x)]) ∧ Ext w w') := by
  obtain ⟨id, land, made, upper, lower, rods, cs⟩ := x
  obtain ⟨l, rfl⟩ : ∃ l, land = bs l := ⟨_, bs_of _⟩
  refine calls_ct Try.func33 Try.ntmps33 rfl rfl ?_
  refine ct_seq ?_
  refine ct_reg ?_
  refine rl_box rfl rfl (fun N1 => ?_)
  refine rl_val gw_none (ov_assign rfl) rfl ?_
  refine rl_val gw_none (ov_assign rfl) rfl ?_
  refine rl_nil ?_
  refine at_then ?_
  refine ct_seq ?_
  refine ct_seq ?_
  refine ct_reg ?_
  first | refine rl_val gw_none (ov_loadall 0 ag46 rfl rfl rfl) rfl ?_ | refine rl_val gw_none (ov_loadp 0 ag46 rfl rfl (vs := [_, _, _, _, _, _, _]) rfl rfl) rfl ?_ | refine rl_val gw_none (ov_loada 0 ag46 rfl rfl rfl (by assumption)) rfl ?_
  refine rl_callv gw_none goes31 rfl (fun w1 hp => iIsExhibit_c _ _ hg) rfl ?_
  refine rl_val gw_none (ov_not rfl) rfl ?_
  refine rl_nil ?_
  refine at_then ?_
  first | refine ct_dec rfl (fun h1 => ?_) (fun h1 => ?_) | refine ct_ndec rfl (fun h1 => ?_) (fun h1 => ?_) | refine ct_eq rfl (fun h1 => ?_) (fun h1 => ?_) | refine ct_ne rfl (fun h1 => ?_) (fun h1 => ?_) | refine ct_not rfl (fun h1 => ?_) (fun h1 => ?_) | refine ct_cond rfl (fun h1 => ?_) (fun h1 => ?_)
  ·
    refine ct_seq ?_
    refine ct_reg ?_
    refine rl_val gw_none (ov_assign rfl) rfl ?_
    refine rl_val gw_none (ov_assign rfl) rfl ?_
    refine rl_nil ?_
    refine at_then ?_
    refine ct_ret ?_
    refine at_then_ret ?_
    refine at_ret2 Try.results33 (ro_tmp rfl) (ro_tmp rfl) (fun w1 hp => ?_)
    refine ⟨?_, hp.ext0⟩
    first | (rw [extR_no (show exhB ⟨id, bs l, made, upper, lower, rods, cs⟩ = false by simpa using h1), show exhB ⟨id, bs l, made, upper, lower, rods, cs⟩ = false by simpa using h1]; first | done | rfl) | (rw [extR_st hok (by assumption), hok]; unfold extL; dsimp only; rw [bs_data]; done) | (rw [extR_sh hok (by assumption), hok]; unfold extL; dsimp only; rw [bs_data]; done)
  ·
    have hok : exhB ⟨id, bs l, made, upper, lower, rods, cs⟩ = true := by simpa using h1
    have hbd := exhB_bd hok
    dsimp only at hbd
    have hwl : l.length ≤ 10 := word_len (l := l) (exhB_word hok)
    have n1 := numL_len (n := made.toNat) (by omega)
    have n2 := numL_len (n := upper.toNat) (by omega)
    have n3 := numL_len (n := lower.toNat) (by omega)
    have n4 := numL_len (n := rods.toNat) (by omega)
    refine ct_skip ?_
    refine at_then ?_
    refine ct_seq ?_
    refine ct_dr 23 (by kernel_rfl) (by kernel_rfl) ?_
    refine ql_val gw_none (ov_field fo46_1 rfl) rfl ?_
    first | refine ql_val gw_none (ov_load 0 sc9 rfl rfl rfl) rfl ?_ | refine ql_val gw_none (ov_load 0 sc9 rfl rfl (by assumption)) rfl ?_
    refine ql_val gw_none (ov_sadd rfl rfl (by first | omega | (simp; omega))) rfl ?_
    refine ql_val gw_none (ov_field fo46_2 rfl) rfl ?_
    first | refine ql_val gw_none (ov_load 0 sc3 rfl rfl rfl) rfl ?_ | refine ql_val gw_none (ov_load 0 sc3 rfl rfl (by assumption)) rfl ?_
    refine ql_callv gw_none goes70 rfl (fun w1 hp => text_c made.toNat _ _ (by first | omega | (dsimp only; omega)) (by omega)) rfl ?_
    refine ql_val gw_none (ov_sadd rfl rfl (by first | omega | (simp; omega))) rfl ?_
    refine ql_val gw_none (ov_sadd rfl rfl (by first | omega | (simp; omega))) rfl ?_
    refine ql_val gw_none (ov_field fo46_3 rfl) rfl ?_
    first | refine ql_val gw_none (ov_load 0 sc3 rfl rfl rfl) rfl ?_ | refine ql_val gw_none (ov_load 0 sc3 rfl rfl (by assumption)) rfl ?_
    refine ql_callv gw_none goes70 rfl (fun w1 hp => text_c upper.toNat _ _ (by first | omega | (dsimp only; omega)) (by omega)) rfl ?_
    refine ql_val gw_none (ov_sadd rfl rfl (by first | omega | (simp; omega))) rfl ?_
    refine ql_val gw_none (ov_sadd rfl rfl (by first | omega | (simp; omega))) rfl ?_
    refine ql_val gw_none (ov_field fo46_4 rfl) rfl ?_
    first | refine ql_val gw_none (ov_load 0 sc3 rfl rfl rfl) rfl ?_ | refine ql_val gw_none (ov_load 0 sc3 rfl rfl (by assumption)) rfl ?_
    refine ql_callv gw_none goes70 rfl (fun w1 hp => text_c lower.toNat _ _ (by first | omega | (dsimp only; omega)) (by omega)) rfl ?_
    refine ql_val gw_none (ov_sadd rfl rfl (by first | omega | (simp; omega))) rfl ?_
    refine ql_val gw_none (ov_sadd rfl rfl (by first | omega | (simp; omega))) rfl ?_
    refine ql_val gw_none (ov_field fo46_5 rfl) rfl ?_
    first | refine ql_val gw_none (ov_load 0 sc3 rfl rfl rfl) rfl ?_ | refine ql_val gw_none (ov_load 0 sc3 rfl rfl (by assumption)) rfl ?_
    refine ql_callv gw_none goes70 rfl (fun w1 hp => text_c rods.toNat _ _ (by first | omega | (dsimp only; omega)) (by omega)) rfl ?_
    refine ql_val gw_none (ov_sadd rfl rfl (by first | omega | (simp; omega))) rfl ?_
    refine ql_val gw_none (ov_assign rfl) rfl ?_
    refine ql_nil ?_
    refine rl_nil ?_
    refine at_then ?_
    refine ct_seq ?_
    refine ct_seq ?_
    refine ct_reg ?_
    refine rl_val gw_none (ov_field fo46_6 rfl) rfl ?_
    first | refine rl_val gw_none (ov_load 0 sc3 rfl rfl rfl) rfl ?_ | refine rl_val gw_none (ov_load 0 sc3 rfl rfl (by assumption)) rfl ?_
    refine rl_val gw_none (ov_eql rfl rfl) rfl ?_
    refine rl_nil ?_
    refine at_then ?_
    first | refine ct_dec rfl (fun h2 => ?_) (fun h2 => ?_) | refine ct_ndec rfl (fun h2 => ?_) (fun h2 => ?_) | refine ct_eq rfl (fun h2 => ?_) (fun h2 => ?_) | refine ct_ne rfl (fun h2 => ?_) (fun h2 => ?_) | refine ct_not rfl (fun h2 => ?_) (fun h2 => ?_) | refine ct_cond rfl (fun h2 => ?_) (fun h2 => ?_)
    ·
      refine ct_reg ?_
      refine rl_val gw_none (ov_move rfl) rfl ?_
      refine rl_val gw_none (ov_sadd rfl rfl (by first | omega | (simp; omega))) rfl ?_
      refine rl_val gw_none (ov_assign rfl) rfl ?_
      refine rl_nil ?_
      refine at_then ?_
      refine ct_seq ?_
      refine ct_reg ?_
      refine rl_val gw_none (ov_move rfl) rfl ?_
      refine rl_val gw_none (ov_assign rfl) rfl ?_
      refine rl_val gw_none (ov_assign rfl) rfl ?_
      refine rl_nil ?_
      refine at_then ?_
      refine ct_ret ?_
      refine at_ret2 Try.results33 (ro_tmp rfl) (ro_tmp rfl) (fun w1 hp => ?_)
      refine ⟨?_, hp.ext0⟩
      first | (rw [extR_no (show exhB ⟨id, bs l, made, upper, lower, rods, cs⟩ = false by simpa using h1), show exhB ⟨id, bs l, made, upper, lower, rods, cs⟩ = false by simpa using h1]; first | done | rfl) | (rw [extR_st hok (by assumption), hok]; unfold extL; dsimp only; rw [bs_data]; done) | (rw [extR_sh hok (by assumption), hok]; unfold extL; dsimp only; rw [bs_data]; done)
    ·
      refine ct_skip ?_
      refine at_then ?_
      refine ct_seq ?_
      refine ct_reg ?_
      refine rl_val gw_none (ov_move rfl) rfl ?_
      refine rl_val gw_none (ov_assign rfl) rfl ?_
      refine rl_val gw_none (ov_assign rfl) rfl ?_
      refine rl_nil ?_
      refine at_then ?_
      refine ct_ret ?_
      refine at_ret2 Try.results33 (ro_tmp rfl) (ro_tmp rfl) (fun w1 hp => ?_)
      refine ⟨?_, hp.ext0⟩
      first | (rw [extR_no (show exhB ⟨id, bs l, made, upper, lower, rods, cs⟩ = false by simpa using h1), show exhB ⟨id, bs l, made, upper, lower, rods, cs⟩ = false by simpa using h1]; first | done | rfl) | (rw [extR_st hok (by assumption), hok]; unfold extL; dsimp only; rw [bs_data]; done) | (rw [extR_sh hok (by assumption), hok]; unfold extL; dsimp only; rw [bs_data]; done)

theorem sExhibitText_c (x : Exhibit) (w : World) (hg : GExhibit x) : Calls Try.prog 34 ([.agg (encExhibit x).toArray]).toArray w (fun e w' => e = .returned (.tuple #[.string (bs (extR x)), .bool (exhB x)]) ∧ Ext w w') := by
  obtain ⟨id, land, made, upper, lower, rods, cs⟩ := x
  obtain ⟨l, rfl⟩ : ∃ l, land = bs l := ⟨_, bs_of _⟩
  refine calls_ct Try.func34 Try.ntmps34 rfl rfl ?_
  refine ct_seq ?_
  refine ct_reg ?_
  refine rl_box rfl rfl (fun N1 => ?_)
  refine rl_val gw_none (ov_assign rfl) rfl ?_
  refine rl_val gw_none (ov_assign rfl) rfl ?_
  refine rl_nil ?_
  refine at_then ?_
  refine ct_seq ?_
  refine ct_seq ?_
  refine ct_reg ?_
  first | refine rl_val gw_none (ov_loadall 0 ag46 rfl rfl rfl) rfl ?_ | refine rl_val gw_none (ov_loadp 0 ag46 rfl rfl (vs := [_, _, _, _, _, _, _]) rfl rfl) rfl ?_ | refine rl_val gw_none (ov_loada 0 ag46 rfl rfl rfl (by assumption)) rfl ?_
  refine rl_callv gw_none goes65 rfl (fun w1 hp => l22One_c _ _ hg) rfl ?_
  refine rl_val gw_none (ov_not rfl) rfl ?_
  refine rl_nil ?_
  refine at_then ?_
  first | refine ct_dec rfl (fun h1 => ?_) (fun h1 => ?_) | refine ct_ndec rfl (fun h1 => ?_) (fun h1 => ?_) | refine ct_eq rfl (fun h1 => ?_) (fun h1 => ?_) | refine ct_ne rfl (fun h1 => ?_) (fun h1 => ?_) | refine ct_not rfl (fun h1 => ?_) (fun h1 => ?_) | refine ct_cond rfl (fun h1 => ?_) (fun h1 => ?_)
  ·
    refine ct_seq ?_
    refine ct_reg ?_
    refine rl_val gw_none (ov_assign rfl) rfl ?_
    refine rl_val gw_none (ov_assign rfl) rfl ?_
    refine rl_nil ?_
    refine at_then ?_
    refine ct_ret ?_
    refine at_then_ret ?_
    refine at_ret2 Try.results34 (ro_tmp rfl) (ro_tmp rfl) (fun w1 hp => ?_)
    refine ⟨?_, hp.ext0⟩
    first | (rw [extR_no (show exhB ⟨id, bs l, made, upper, lower, rods, cs⟩ = false by simpa using h1), show exhB ⟨id, bs l, made, upper, lower, rods, cs⟩ = false by simpa using h1]; first | done | rfl) | (rw [extR_st hok (by assumption), hok]; unfold extL; dsimp only; rw [bs_data]; done) | (rw [extR_sh hok (by assumption), hok]; unfold extL; dsimp only; rw [bs_data]; done)
  ·
    have hok : exhB ⟨id, bs l, made, upper, lower, rods, cs⟩ = true := by simpa using h1
    have hbd := exhB_bd hok
    dsimp only at hbd
    have hwl : l.length ≤ 10 := word_len (l := l) (exhB_word hok)
    have n1 := numL_len (n := made.toNat) (by omega)
    have n2 := numL_len (n := upper.toNat) (by omega)
    have n3 := numL_len (n := lower.toNat) (by omega)
    have n4 := numL_len (n := rods.toNat) (by omega)
    refine ct_skip ?_
    refine at_then ?_
    refine ct_seq ?_
    refine ct_dr 23 (by kernel_rfl) (by kernel_rfl) ?_
    refine ql_val gw_none (ov_field fo46_1 rfl) rfl ?_
    first | refine ql_val gw_none (ov_load 0 sc9 rfl rfl rfl) rfl ?_ | refine ql_val gw_none (ov_load 0 sc9 rfl rfl (by assumption)) rfl ?_
    refine ql_val gw_none (ov_sadd rfl rfl (by first | omega | (simp; omega))) rfl ?_
    refine ql_val gw_none (ov_field fo46_2 rfl) rfl ?_
    first | refine ql_val gw_none (ov_load 0 sc3 rfl rfl rfl) rfl ?_ | refine ql_val gw_none (ov_load 0 sc3 rfl rfl (by assumption)) rfl ?_
    refine ql_callv gw_none goes71 rfl (fun w1 hp => l1Num_c made.toNat _ _ (by first | omega | (dsimp only; omega)) (by omega)) rfl ?_
    refine ql_val gw_none (ov_sadd rfl rfl (by first | omega | (simp; omega))) rfl ?_
    refine ql_val gw_none (ov_sadd rfl rfl (by first | omega | (simp; omega))) rfl ?_
    refine ql_val gw_none (ov_field fo46_3 rfl) rfl ?_
    first | refine ql_val gw_none (ov_load 0 sc3 rfl rfl rfl) rfl ?_ | refine ql_val gw_none (ov_load 0 sc3 rfl rfl (by assumption)) rfl ?_
    refine ql_callv gw_none goes71 rfl (fun w1 hp => l1Num_c upper.toNat _ _ (by first | omega | (dsimp only; omega)) (by omega)) rfl ?_
    refine ql_val gw_none (ov_sadd rfl rfl (by first | omega | (simp; omega))) rfl ?_
    refine ql_val gw_none (ov_sadd rfl rfl (by first | omega | (simp; omega))) rfl ?_
    refine ql_val gw_none (ov_field fo46_4 rfl) rfl ?_
    first | refine ql_val gw_none (ov_load 0 sc3 rfl rfl rfl) rfl ?_ | refine ql_val gw_none (ov_load 0 sc3 rfl rfl (by assumption)) rfl ?_
    refine ql_callv gw_none goes71 rfl (fun w1 hp => l1Num_c lower.toNat _ _ (by first | omega | (dsimp only; omega)) (by omega)) rfl ?_
    refine ql_val gw_none (ov_sadd rfl rfl (by first | omega | (simp; omega))) rfl ?_
    refine ql_val gw_none (ov_sadd rfl rfl (by first | omega | (simp; omega))) rfl ?_
    refine ql_val gw_none (ov_field fo46_5 rfl) rfl ?_
    first | refine ql_val gw_none (ov_load 0 sc3 rfl rfl rfl) rfl ?_ | refine ql_val gw_none (ov_load 0 sc3 rfl rfl (by assumption)) rfl ?_
    refine ql_callv gw_none goes71 rfl (fun w1 hp => l1Num_c rods.toNat _ _ (by first | omega | (dsimp only; omega)) (by omega)) rfl ?_
    refine ql_val gw_none (ov_sadd rfl rfl (by first | omega | (simp; omega))) rfl ?_
    refine ql_val gw_none (ov_assign rfl) rfl ?_
    refine ql_nil ?_
    refine rl_nil ?_
    refine at_then ?_
    refine ct_seq ?_
    refine ct_seq ?_
    refine ct_reg ?_
    refine rl_val gw_none (ov_field fo46_6 rfl) rfl ?_
    first | refine rl_val gw_none (ov_load 0 sc3 rfl rfl rfl) rfl ?_ | refine rl_val gw_none (ov_load 0 sc3 rfl rfl (by assumption)) rfl ?_
    refine rl_val gw_none (ov_eql rfl rfl) rfl ?_
    refine rl_nil ?_
    refine at_then ?_
    first | refine ct_dec rfl (fun h2 => ?_) (fun h2 => ?_) | refine ct_ndec rfl (fun h2 => ?_) (fun h2 => ?_) | refine ct_eq rfl (fun h2 => ?_) (fun h2 => ?_) | refine ct_ne rfl (fun h2 => ?_) (fun h2 => ?_) | refine ct_not rfl (fun h2 => ?_) (fun h2 => ?_) | refine ct_cond rfl (fun h2 => ?_) (fun h2 => ?_)
    ·
      refine ct_reg ?_
      refine rl_val gw_none (ov_move rfl) rfl ?_
      refine rl_val gw_none (ov_sadd rfl rfl (by first | omega | (simp; omega))) rfl ?_
      refine rl_val gw_none (ov_assign rfl) rfl ?_
      refine rl_nil ?_
      refine at_then ?_
      refine ct_seq ?_
      refine ct_reg ?_
      refine rl_val gw_none (ov_move rfl) rfl ?_
      refine rl_val gw_none (ov_assign rfl) rfl ?_
      refine rl_val gw_none (ov_assign rfl) rfl ?_
      refine rl_nil ?_
      refine at_then ?_
      refine ct_ret ?_
      refine at_ret2 Try.results34 (ro_tmp rfl) (ro_tmp rfl) (fun w1 hp => ?_)
      refine ⟨?_, hp.ext0⟩
      first | (rw [extR_no (show exhB ⟨id, bs l, made, upper, lower, rods, cs⟩ = false by simpa using h1), show exhB ⟨id, bs l, made, upper, lower, rods, cs⟩ = false by simpa using h1]; first | done | rfl) | (rw [extR_st hok (by assumption), hok]; unfold extL; dsimp only; rw [bs_data]; done) | (rw [extR_sh hok (by assumption), hok]; unfold extL; dsimp only; rw [bs_data]; done)
    ·
      refine ct_skip ?_
      refine at_then ?_
      refine ct_seq ?_
      refine ct_reg ?_
      refine rl_val gw_none (ov_move rfl) rfl ?_
      refine rl_val gw_none (ov_assign rfl) rfl ?_
      refine rl_val gw_none (ov_assign rfl) rfl ?_
      refine rl_nil ?_
      refine at_then ?_
      refine ct_ret ?_
      refine at_ret2 Try.results34 (ro_tmp rfl) (ro_tmp rfl) (fun w1 hp => ?_)
      refine ⟨?_, hp.ext0⟩
      first | (rw [extR_no (show exhB ⟨id, bs l, made, upper, lower, rods, cs⟩ = false by simpa using h1), show exhB ⟨id, bs l, made, upper, lower, rods, cs⟩ = false by simpa using h1]; first | done | rfl) | (rw [extR_st hok (by assumption), hok]; unfold extL; dsimp only; rw [bs_data]; done) | (rw [extR_sh hok (by assumption), hok]; unfold extL; dsimp only; rw [bs_data]; done)
end Go.Proofs.Ytfelindekikaeaa
