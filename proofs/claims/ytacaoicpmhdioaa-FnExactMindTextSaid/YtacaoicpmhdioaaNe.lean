import Derived.Test.YtacaoicpmhdioaaNc
import Derived.KernelRfl
set_option linter.unusedVariables false
set_option linter.unusedSimpArgs false
namespace Go.Proofs.Ytacaoicpmhdioaa
open Go Go.RowKit K
theorem l21Lost_c (u : Int) (l : Int) (xs : List IntA2) (cl : List Int) (im : List Int) (be : Int) (gu : Int) (vxs : Value) (vcl : Value) (vim : Value) (w : World) (zu : In64 u) (zl : In64 l) (hGxs : ∀ y ∈ xs, GIntA2 y) (hsxs : SR w 2 vxs xs.length (flat encIntA2 xs)) (hscl : SR w 1 vcl cl.length (ints cl)) (hsim : SR w 1 vim im.length (ints im)) (zbe : In64 be) (zgu : In64 gu) (hok : mindB u l xs cl im be gu = true) : Calls Try.prog 76 ([.agg (List.toArray (α := Value) [.int .i64 u, .int .i64 l, vxs, vcl, vim, .int .i64 be, .int .i64 gu])]).toArray w (fun e w' => RetSl 3 1 (ints (lostP im im.length)) (lostP im im.length).length (fun s => s) w e w') := by
  obtain ⟨axs, capxs, rfl, hcapxs, hmaxxs⟩ := hsxs.slice
  have hlenxs := hsxs.len_le
  obtain ⟨acl, capcl, rfl, hcapcl, hmaxcl⟩ := hscl.slice
  have hlencl := hscl.len_le
  obtain ⟨aim, capim, rfl, hcapim, hmaxim⟩ := hsim.slice
  have hlenim := hsim.len_le
  have hmh := mindB_h hok
  refine calls_ct Try.func76 Try.ntmps76 rfl rfl ?_
  refine ct_seq ?_
  refine ct_reg ?_
  refine rl_box rfl rfl (fun N1 => ?_)
  refine rl_val gw_none (ov_assign rfl) rfl ?_
  refine rl_nil ?_
  refine at_then ?_
  refine ct_seq ?_
  refine ct_reg ?_
  refine rl_bslice Try.underlying42 ze3 sz3 rfl rfl rfl rfl rfl rfl (fun N2 => ?_)
  refine rl_val gw_none (ov_assign rfl) rfl ?_
  refine rl_nil ?_
  refine at_then ?_
  refine ct_seq ?_
  refine ct_seq ?_
  refine ct_reg ?_
  refine rl_val gw_none (ov_assign rfl) rfl ?_
  refine rl_nil ?_
  refine at_then ?_
  refine ct_block ?_
  refine ct_loopR (ι := Nat × Option Nat × Nat × List Value) (fun p0 => [(3, sv p0.2.1 (lostP im p0.1).length p0.2.2.1), (4, .int .i64 p0.1)]) [(1, _), (2, _)] (fun p0 => (p0.2.1, 3, ints (lostP im p0.1) ++ p0.2.2.2) :: _) (fun p0 => p0.1 ≤ im.length ∧ Sl 1 p0.2.1 (lostP im p0.1).length p0.2.2.1 (ints (lostP im p0.1)) p0.2.2.2) (fun p0 => im.length - p0.1) ((0, some N2, 0, [])) (Sub.cons rfl (Sub.cons rfl Sub.nil)) (fun _ hq => hq) (by (repeat' (first | exact Sub.nil | refine Sub.cons ?_ ?_)); all_goals (first | rfl | exact lkInt rfl (by omega))) ⟨Nat.zero_le _, Sl.lit rfl (Nat.zero_le _)⟩ (fun p0 hp0 => ?_)
  obtain ⟨k, bo, cap, pad⟩ := p0
  obtain ⟨hk, hsl⟩ := hp0
  dsimp only at hk hsl
  try dsimp only
  have hal := lostP_len im k
  refine ct_seq ?_
  refine ct_seq ?_
  refine ct_reg ?_
  refine rl_val gw_none (ov_move rfl) rfl ?_
  refine rl_val gw_none (ov_field fo56_2 rfl) rfl ?_
  first | refine rl_val gw_none (ov_load 0 sc42 rfl rfl rfl) rfl ?_ | refine rl_val gw_none (ov_load 1 sc42 rfl rfl rfl) rfl ?_ | refine rl_val gw_none (ov_load 2 sc42 rfl rfl rfl) rfl ?_ | refine rl_val gw_none (ov_load 3 sc42 rfl rfl rfl) rfl ?_ | refine rl_val gw_none (ov_loadw sc42 rfl (by assumption)) rfl ?_ | refine rl_val gw_none (ov_load 0 sc42 rfl rfl (by assumption)) rfl ?_ | refine rl_val gw_none (ov_load 1 sc42 rfl rfl (by assumption)) rfl ?_ | refine rl_val gw_none (ov_load 2 sc42 rfl rfl (by assumption)) rfl ?_ | refine rl_val gw_none (ov_load 3 sc42 rfl rfl (by assumption)) rfl ?_
  refine rl_val gw_none (ov_len Try.underlying42 rfl) rfl ?_
  refine rl_val gw_none (ov_lss rfl rfl) rfl ?_
  refine rl_nil ?_
  refine at_then ?_
  first | refine ct_dec rfl (fun h1 => ?_) (fun h1 => ?_) | refine ct_ndec rfl (fun h1 => ?_) (fun h1 => ?_) | refine ct_eq rfl (fun h1 => ?_) (fun h1 => ?_) | refine ct_ne rfl (fun h1 => ?_) (fun h1 => ?_) | refine ct_not rfl (fun h1 => ?_) (fun h1 => ?_) | refine ct_cond rfl (fun h1 => ?_) (fun h1 => ?_)
  ·
    have hk2 : k < im.length := by omega
    obtain ⟨bi, oi, rfl, hei⟩ := hsim.int hk2
    have hxi := getLt hk2
    obtain ⟨c, hxc⟩ : ∃ c, cl[k]? = some c := ⟨_, getLt (show k < cl.length by omega)⟩
    have hmb := mindB_at hok hxi hxc
    generalize im[k] = d at *
    have hci := hei k d hxi
    refine ct_skip ?_
    refine at_then ?_
    refine ct_seq ?_
    refine ct_block ?_
    refine ct_seq ?_
    refine ct_reg ?_
    refine rl_val gw_none (ov_field fo56_2 rfl) rfl ?_
    first | refine rl_val gw_none (ov_load 0 sc42 rfl rfl rfl) rfl ?_ | refine rl_val gw_none (ov_load 1 sc42 rfl rfl rfl) rfl ?_ | refine rl_val gw_none (ov_load 2 sc42 rfl rfl rfl) rfl ?_ | refine rl_val gw_none (ov_load 3 sc42 rfl rfl rfl) rfl ?_ | refine rl_val gw_none (ov_loadw sc42 rfl (by assumption)) rfl ?_ | refine rl_val gw_none (ov_load 0 sc42 rfl rfl (by assumption)) rfl ?_ | refine rl_val gw_none (ov_load 1 sc42 rfl rfl (by assumption)) rfl ?_ | refine rl_val gw_none (ov_load 2 sc42 rfl rfl (by assumption)) rfl ?_ | refine rl_val gw_none (ov_load 3 sc42 rfl rfl (by assumption)) rfl ?_
    refine rl_val gw_none (ov_move rfl) rfl ?_
    refine rl_val gw_none (ov_ix Try.underlying42 sz3 rfl rfl _ rfl (by omega)) rfl ?_
    first | refine rl_val gw_none (ov_load 0 sc3 rfl rfl rfl) rfl ?_ | refine rl_val gw_none (ov_load 1 sc3 rfl rfl rfl) rfl ?_ | refine rl_val gw_none (ov_load 2 sc3 rfl rfl rfl) rfl ?_ | refine rl_val gw_none (ov_load 3 sc3 rfl rfl rfl) rfl ?_ | refine rl_val gw_none (ov_loadw sc3 rfl (by assumption)) rfl ?_ | refine rl_val gw_none (ov_load 0 sc3 rfl rfl (by assumption)) rfl ?_ | refine rl_val gw_none (ov_load 1 sc3 rfl rfl (by assumption)) rfl ?_ | refine rl_val gw_none (ov_load 2 sc3 rfl rfl (by assumption)) rfl ?_ | refine rl_val gw_none (ov_load 3 sc3 rfl rfl (by assumption)) rfl ?_
    refine rl_val gw_none (ov_eql rfl rfl) rfl ?_
    refine rl_nil ?_
    refine at_then ?_
    first | refine ct_dec rfl (fun h2 => ?_) (fun h2 => ?_) | refine ct_ndec rfl (fun h2 => ?_) (fun h2 => ?_) | refine ct_eq rfl (fun h2 => ?_) (fun h2 => ?_) | refine ct_ne rfl (fun h2 => ?_) (fun h2 => ?_) | refine ct_not rfl (fun h2 => ?_) (fun h2 => ?_) | refine ct_cond rfl (fun h2 => ?_) (fun h2 => ?_)
    ·
      refine ct_reg ?_
      refine rl_val gw_none (ov_move rfl) rfl ?_
      refine rl_val gw_none (ov_move rfl) rfl ?_
      refine rl_bslice Try.underlying42 ze3 sz3 rfl rfl rfl rfl rfl rfl (fun N3 => ?_)
      refine rl_appT (ints) (ints_append) [_] (acc := lostP im k) Try.underlying42 ze3 sz3 rfl rfl by3 rfl rfl rfl hsl ([(k : Int)]) rfl (fun w1 hp => hp.sr1 0 rfl rfl (by decide)) (ints_one _) (by unfold maxLen; omega) (by omega) rfl (fun boq1 capq1 padq1 hsq1 => ?_)
      refine rl_val gw_none (ov_assign rfl) rfl ?_
      refine rl_nil ?_
      refine at_block ?_
      refine at_then ?_
      refine ct_reg ?_
      refine rl_val gw_none (ov_move rfl) rfl ?_
      refine rl_val gw_none (ov_add rfl rfl (by omega)) rfl ?_
      refine rl_val gw_none (ov_assign rfl) rfl ?_
      refine rl_nil ?_
      have hts := lostP_yes hxi (show d < 0 by omega)
      exact at_backR (k + 1, boq1, capq1, padq1) ⟨hk2, by dsimp only; rw [hts]; exact hsq1⟩ (by dsimp only; omega) (by dsimp only; rw [hts]; (repeat' (first | exact Sub.nil | refine Sub.cons ?_ ?_)); all_goals (first | rfl | exact lkInt rfl (by omega))) (Sub.cons rfl (Sub.cons rfl Sub.nil)) (fun _ hq => (hq.drop).cong (by dsimp only; rw [hts]; try rfl))
    ·
      refine ct_skip ?_
      refine at_block ?_
      refine at_then ?_
      refine ct_reg ?_
      refine rl_val gw_none (ov_move rfl) rfl ?_
      refine rl_val gw_none (ov_add rfl rfl (by omega)) rfl ?_
      refine rl_val gw_none (ov_assign rfl) rfl ?_
      refine rl_nil ?_
      have hts := lostP_no hxi (show ¬ d < 0 by omega)
      exact at_backR (k + 1, bo, cap, pad) ⟨hk2, by dsimp only; rw [hts]; exact hsl⟩ (by dsimp only; omega) (by dsimp only; rw [hts]; (repeat' (first | exact Sub.nil | refine Sub.cons ?_ ?_)); all_goals (first | rfl | exact lkInt rfl (by omega))) (Sub.cons rfl (Sub.cons rfl Sub.nil)) (fun _ hq => (hq).cong (by dsimp only; rw [hts]; try rfl))
  ·
    have hke : k = im.length := by omega
    subst hke
    refine ct_exit ?_
    refine at_then_exit ?_
    refine at_then_exit ?_
    refine at_block_hit ?_
    refine at_then ?_
    refine ct_seq ?_
    refine ct_reg ?_
    refine rl_val gw_none (ov_move rfl) rfl ?_
    refine rl_val gw_none (ov_assign rfl) rfl ?_
    refine rl_nil ?_
    refine at_then ?_
    refine ct_ret ?_
    refine at_ret1 Try.results76 (ro_tmp rfl) (fun w1 hp => ?_)
    exact RetSl.own 0 hp rfl hsl

theorem sLostRods_c (u : Int) (l : Int) (xs : List IntA2) (cl : List Int) (im : List Int) (be : Int) (gu : Int) (vxs : Value) (vcl : Value) (vim : Value) (w : World) (zu : In64 u) (zl : In64 l) (hGxs : ∀ y ∈ xs, GIntA2 y) (hsxs : SR w 2 vxs xs.length (flat encIntA2 xs)) (hscl : SR w 1 vcl cl.length (ints cl)) (hsim : SR w 1 vim im.length (ints im)) (zbe : In64 be) (zgu : In64 gu) : Calls Try.prog 48 ([.agg (List.toArray (α := Value) [.int .i64 u, .int .i64 l, vxs, vcl, vim, .int .i64 be, .int .i64 gu])]).toArray w (fun e w' => RetSl 3 1 (ints (lostR (mindB u l xs cl im be gu) im)) ((lostR (mindB u l xs cl im be gu) im).length) (fun s => .tuple #[s, .bool (mindB u l xs cl im be gu)]) w e w') := by
  obtain ⟨axs, capxs, rfl, hcapxs, hmaxxs⟩ := hsxs.slice
  have hlenxs := hsxs.len_le
  obtain ⟨acl, capcl, rfl, hcapcl, hmaxcl⟩ := hscl.slice
  have hlencl := hscl.len_le
  obtain ⟨aim, capim, rfl, hcapim, hmaxim⟩ := hsim.slice
  have hlenim := hsim.len_le
  refine calls_ct Try.func48 Try.ntmps48 rfl rfl ?_
  refine ct_seq ?_
  refine ct_reg ?_
  refine rl_box rfl rfl (fun N1 => ?_)
  refine rl_val gw_none (ov_assign rfl) rfl ?_
  refine rl_val gw_none (ov_assign rfl) rfl ?_
  refine rl_nil ?_
  refine at_then ?_
  refine ct_seq ?_
  refine ct_seq ?_
  refine ct_reg ?_
  first | refine rl_val gw_none (ov_loadall 0 ag56 rfl rfl rfl) rfl ?_ | refine rl_val gw_none (ov_loadp 0 ag56 rfl rfl (vs := [_, _, _, _, _, _, _]) rfl rfl) rfl ?_ | refine rl_val gw_none (ov_loada 0 ag56 rfl rfl rfl (by assumption)) rfl ?_
  refine rl_callv gw_none goes71 rfl (fun w1 hp => l21Good_c u l xs cl im be gu _ _ _ _ zu zl hGxs (hsxs.ext hp.ext0) (hscl.ext hp.ext0) (hsim.ext hp.ext0) zbe zgu) rfl ?_
  refine rl_val gw_none (ov_not rfl) rfl ?_
  refine rl_nil ?_
  refine at_then ?_
  first | refine ct_dec rfl (fun h1 => ?_) (fun h1 => ?_) | refine ct_ndec rfl (fun h1 => ?_) (fun h1 => ?_) | refine ct_eq rfl (fun h1 => ?_) (fun h1 => ?_) | refine ct_ne rfl (fun h1 => ?_) (fun h1 => ?_) | refine ct_not rfl (fun h1 => ?_) (fun h1 => ?_) | refine ct_cond rfl (fun h1 => ?_) (fun h1 => ?_)
  ·
    refine ct_seq ?_
    refine ct_reg ?_
    refine rl_bslice Try.underlying42 ze3 sz3 rfl rfl rfl rfl rfl rfl (fun N2 => ?_)
    refine rl_val gw_none (ov_assign rfl) rfl ?_
    refine rl_val gw_none (ov_assign rfl) rfl ?_
    refine rl_nil ?_
    refine at_then ?_
    refine ct_ret ?_
    refine at_then_ret ?_
    refine at_ret2 Try.results48 (ro_tmp rfl) (ro_tmp rfl) (fun w1 hp => ?_)
    first | (rw [lostR_no (show mindB u l xs cl im be gu = false by simpa using h1), show mindB u l xs cl im be gu = false by simpa using h1]; first | exact RetSl.nil hp.ext0 | exact RetSl.lit 0 hp rfl rfl (by decide)) | (rw [lostR_yes hok, hok]; exact RetSl.own 999 hp rfl hsls)
  ·
    have hok : mindB u l xs cl im be gu = true := by simpa using h1
    have hmh := mindB_h hok
    have hf := goodB_f hmh.1
    have hnb := numF_all hf
    refine ct_skip ?_
    refine at_then ?_
    refine ct_seq ?_
    refine ct_reg ?_
    first | refine rl_val gw_none (ov_loadall 0 ag56 rfl rfl rfl) rfl ?_ | refine rl_val gw_none (ov_loadp 0 ag56 rfl rfl (vs := [_, _, _, _, _, _, _]) rfl rfl) rfl ?_ | refine rl_val gw_none (ov_loada 0 ag56 rfl rfl rfl (by assumption)) rfl ?_
    refine rl_callsl (ι := Nat × List Value) (fun i bo => sv bo (lostP im im.length).length i.1) (fun i => ints (lostP im im.length) ++ i.2) (fun i bo => Sl 1 bo (lostP im im.length).length i.1 (ints (lostP im im.length)) i.2) goes76 rfl (fun w1 hp => l21Lost_c u l xs cl im be gu _ _ _ _ zu zl hGxs (hsxs.ext hp.ext0) (hscl.ext hp.ext0) (hsim.ext hp.ext0) zbe zgu hok) rfl (fun ils bols hsls => ?_)
    refine rl_val gw_none (ov_assign rfl) rfl ?_
    refine rl_val gw_none (ov_assign rfl) rfl ?_
    refine rl_nil ?_
    refine at_then ?_
    refine ct_ret ?_
    refine at_ret2 Try.results48 (ro_tmp rfl) (ro_tmp rfl) (fun w1 hp => ?_)
    first | (rw [lostR_no (show mindB u l xs cl im be gu = false by simpa using h1), show mindB u l xs cl im be gu = false by simpa using h1]; first | exact RetSl.nil hp.ext0 | exact RetSl.lit 0 hp rfl rfl (by decide)) | (rw [lostR_yes hok, hok]; exact RetSl.own 0 hp rfl hsls)

theorem iLostRods_c (u : Int) (l : Int) (xs : List IntA2) (cl : List Int) (im : List Int) (be : Int) (gu : Int) (vxs : Value) (vcl : Value) (vim : Value) (w : World) (zu : In64 u) (zl : In64 l) (hGxs : ∀ y ∈ xs, GIntA2 y) (hsxs : SR w 2 vxs xs.length (flat encIntA2 xs)) (hscl : SR w 1 vcl cl.length (ints cl)) (hsim : SR w 1 vim im.length (ints im)) (zbe : In64 be) (zgu : In64 gu) : Calls Try.prog 49 ([.agg (List.toArray (α := Value) [.int .i64 u, .int .i64 l, vxs, vcl, vim, .int .i64 be, .int .i64 gu])]).toArray w (fun e w' => RetSl 3 1 (ints (lostR (mindB u l xs cl im be gu) im)) ((lostR (mindB u l xs cl im be gu) im).length) (fun s => .tuple #[s, .bool (mindB u l xs cl im be gu)]) w e w') := by
  obtain ⟨axs, capxs, rfl, hcapxs, hmaxxs⟩ := hsxs.slice
  have hlenxs := hsxs.len_le
  obtain ⟨acl, capcl, rfl, hcapcl, hmaxcl⟩ := hscl.slice
  have hlencl := hscl.len_le
  obtain ⟨aim, capim, rfl, hcapim, hmaxim⟩ := hsim.slice
  have hlenim := hsim.len_le
  refine calls_ct Try.func49 Try.ntmps49 rfl rfl ?_
  refine ct_seq ?_
  refine ct_reg ?_
  refine rl_box rfl rfl (fun N1 => ?_)
  refine rl_val gw_none (ov_assign rfl) rfl ?_
  refine rl_val gw_none (ov_assign rfl) rfl ?_
  refine rl_nil ?_
  refine at_then ?_
  refine ct_seq ?_
  refine ct_seq ?_
  refine ct_reg ?_
  first | refine rl_val gw_none (ov_loadall 0 ag56 rfl rfl rfl) rfl ?_ | refine rl_val gw_none (ov_loadp 0 ag56 rfl rfl (vs := [_, _, _, _, _, _, _]) rfl rfl) rfl ?_ | refine rl_val gw_none (ov_loada 0 ag56 rfl rfl rfl (by assumption)) rfl ?_
  refine rl_callv gw_none goes40 rfl (fun w1 hp => iIsMind_c u l xs cl im be gu _ _ _ _ zu zl hGxs (hsxs.ext hp.ext0) (hscl.ext hp.ext0) (hsim.ext hp.ext0) zbe zgu) rfl ?_
  refine rl_val gw_none (ov_not rfl) rfl ?_
  refine rl_nil ?_
  refine at_then ?_
  first | refine ct_dec rfl (fun h1 => ?_) (fun h1 => ?_) | refine ct_ndec rfl (fun h1 => ?_) (fun h1 => ?_) | refine ct_eq rfl (fun h1 => ?_) (fun h1 => ?_) | refine ct_ne rfl (fun h1 => ?_) (fun h1 => ?_) | refine ct_not rfl (fun h1 => ?_) (fun h1 => ?_) | refine ct_cond rfl (fun h1 => ?_) (fun h1 => ?_)
  ·
    refine ct_seq ?_
    refine ct_reg ?_
    refine rl_val gw_none (ov_assign rfl) rfl ?_
    refine rl_val gw_none (ov_assign rfl) rfl ?_
    refine rl_nil ?_
    refine at_then ?_
    refine ct_ret ?_
    refine at_then_ret ?_
    refine at_ret2 Try.results49 (ro_tmp rfl) (ro_tmp rfl) (fun w1 hp => ?_)
    first | (rw [lostR_no (show mindB u l xs cl im be gu = false by simpa using h1), show mindB u l xs cl im be gu = false by simpa using h1]; first | exact RetSl.nil hp.ext0 | exact RetSl.lit 0 hp rfl rfl (by decide)) | (rw [lostR_yes hok, hok]; exact RetSl.own 999 hp rfl hsl)
  ·
    have hok : mindB u l xs cl im be gu = true := by simpa using h1
    have hmh := mindB_h hok
    have hf := goodB_f hmh.1
    have hnb := numF_all hf
    refine ct_skip ?_
    refine at_then ?_
    refine ct_seq ?_
    refine ct_reg ?_
    refine rl_val gw_none (ov_assign rfl) rfl ?_
    refine rl_nil ?_
    refine at_then ?_
    refine ct_seq ?_
    refine ct_seq ?_
    refine ct_reg ?_
    refine rl_val gw_none (ov_field fo56_2 rfl) rfl ?_
    first | refine rl_val gw_none (ov_load 0 sc42 rfl rfl rfl) rfl ?_ | refine rl_val gw_none (ov_load 0 sc42 rfl rfl (by assumption)) rfl ?_
    refine rl_val gw_none (ov_len Try.underlying42 rfl) rfl ?_
    refine rl_val gw_none (ov_move rfl) rfl ?_
    refine rl_nil ?_
    refine at_then ?_
    refine ct_block ?_
    refine ct_loopR (ι := Nat × Option Nat × Nat × List Value) (fun p0 => [(4, sv p0.2.1 (lostP im p0.1).length p0.2.2.1), (13, .int .i64 p0.1)]) [(2, _), (3, _), (11, _), (12, _)] (fun p0 => (p0.2.1, 3, ints (lostP im p0.1) ++ p0.2.2.2) :: _) (fun p0 => p0.1 ≤ im.length ∧ Sl 1 p0.2.1 (lostP im p0.1).length p0.2.2.1 (ints (lostP im p0.1)) p0.2.2.2) (fun p0 => im.length - p0.1) ((0, none, 0, [])) (Sub.cons rfl (Sub.cons rfl (Sub.cons rfl (Sub.cons rfl Sub.nil)))) (fun _ hq => hq.nil 3) (by (repeat' (first | exact Sub.nil | refine Sub.cons ?_ ?_)); all_goals (first | rfl | exact lkInt rfl (by omega))) ⟨Nat.zero_le _, Sl.nil0 _⟩ (fun p0 hp0 => ?_)
    obtain ⟨k, bo, cap, pad⟩ := p0
    obtain ⟨hk, hsl⟩ := hp0
    dsimp only at hk hsl
    try dsimp only
    have hal := lostP_len im k
    refine ct_seq ?_
    refine ct_reg ?_
    refine rl_val gw_none (ov_lss rfl rfl) rfl ?_
    refine rl_nil ?_
    refine at_then ?_
    refine ct_seq ?_
    first | refine ct_dec rfl (fun h2 => ?_) (fun h2 => ?_) | refine ct_ndec rfl (fun h2 => ?_) (fun h2 => ?_) | refine ct_eq rfl (fun h2 => ?_) (fun h2 => ?_) | refine ct_ne rfl (fun h2 => ?_) (fun h2 => ?_) | refine ct_not rfl (fun h2 => ?_) (fun h2 => ?_) | refine ct_cond rfl (fun h2 => ?_) (fun h2 => ?_)
    ·
      have hk2 : k < im.length := by omega
      obtain ⟨bi, oi, rfl, hei⟩ := hsim.int hk2
      have hxi := getLt hk2
      obtain ⟨c, hxc⟩ : ∃ c, cl[k]? = some c := ⟨_, getLt (show k < cl.length by omega)⟩
      have hmb := mindB_at hok hxi hxc
      generalize im[k] = d at *
      have hci := hei k d hxi
      refine ct_skip ?_
      refine at_then ?_
      refine ct_seq ?_
      refine ct_block ?_
      refine ct_seq ?_
      refine ct_reg ?_
      refine rl_val gw_none (ov_move rfl) rfl ?_
      refine rl_val gw_none (ov_ix Try.underlying42 sz3 rfl rfl _ rfl (by omega)) rfl ?_
      first | refine rl_val gw_none (ov_load 0 sc3 rfl rfl rfl) rfl ?_ | refine rl_val gw_none (ov_load 1 sc3 rfl rfl rfl) rfl ?_ | refine rl_val gw_none (ov_load 2 sc3 rfl rfl rfl) rfl ?_ | refine rl_val gw_none (ov_load 3 sc3 rfl rfl rfl) rfl ?_ | refine rl_val gw_none (ov_loadw sc3 rfl (by assumption)) rfl ?_ | refine rl_val gw_none (ov_load 0 sc3 rfl rfl (by assumption)) rfl ?_ | refine rl_val gw_none (ov_load 1 sc3 rfl rfl (by assumption)) rfl ?_ | refine rl_val gw_none (ov_load 2 sc3 rfl rfl (by assumption)) rfl ?_ | refine rl_val gw_none (ov_load 3 sc3 rfl rfl (by assumption)) rfl ?_
      refine rl_val gw_none (ov_assign rfl) rfl ?_
      refine rl_val gw_none (ov_assign rfl) rfl ?_
      refine rl_nil ?_
      refine at_then ?_
      refine ct_seq ?_
      refine ct_reg ?_
      refine rl_val gw_none (ov_move rfl) rfl ?_
      refine rl_val gw_none (ov_lss rfl rfl) rfl ?_
      refine rl_nil ?_
      refine at_then ?_
      first | refine ct_dec rfl (fun h3 => ?_) (fun h3 => ?_) | refine ct_ndec rfl (fun h3 => ?_) (fun h3 => ?_) | refine ct_eq rfl (fun h3 => ?_) (fun h3 => ?_) | refine ct_ne rfl (fun h3 => ?_) (fun h3 => ?_) | refine ct_not rfl (fun h3 => ?_) (fun h3 => ?_) | refine ct_cond rfl (fun h3 => ?_) (fun h3 => ?_)
      ·
        refine ct_reg ?_
        refine rl_val gw_none (ov_move rfl) rfl ?_
        refine rl_val gw_none (ov_move rfl) rfl ?_
        refine rl_bslice Try.underlying42 ze3 sz3 rfl rfl rfl rfl rfl rfl (fun N2 => ?_)
        refine rl_appT (ints) (ints_append) [_] (acc := lostP im k) Try.underlying42 ze3 sz3 rfl rfl by3 rfl rfl rfl hsl ([(k : Int)]) rfl (fun w1 hp => hp.sr1 0 rfl rfl (by decide)) (ints_one _) (by unfold maxLen; omega) (by omega) rfl (fun boq1 capq1 padq1 hsq1 => ?_)
        refine rl_val gw_none (ov_assign rfl) rfl ?_
        refine rl_nil ?_
        refine at_block ?_
        refine at_then ?_
        refine ct_reg ?_
        refine rl_val gw_none (ov_add rfl rfl (by omega)) rfl ?_
        refine rl_val gw_none (ov_move rfl) rfl ?_
        refine rl_nil ?_
        have hts := lostP_yes hxi (show d < 0 by omega)
        exact at_backR (k + 1, boq1, capq1, padq1) ⟨hk2, by dsimp only; rw [hts]; exact hsq1⟩ (by dsimp only; omega) (by dsimp only; rw [hts]; (repeat' (first | exact Sub.nil | refine Sub.cons ?_ ?_)); all_goals (first | rfl | exact lkInt rfl (by omega))) (Sub.cons rfl (Sub.cons rfl (Sub.cons rfl (Sub.cons rfl Sub.nil)))) (fun _ hq => (hq.drop).cong (by dsimp only; rw [hts]; try rfl))
      ·
        refine ct_skip ?_
        refine at_block ?_
        refine at_then ?_
        refine ct_reg ?_
        refine rl_val gw_none (ov_add rfl rfl (by omega)) rfl ?_
        refine rl_val gw_none (ov_move rfl) rfl ?_
        refine rl_nil ?_
        have hts := lostP_no hxi (show ¬ d < 0 by omega)
        exact at_backR (k + 1, bo, cap, pad) ⟨hk2, by dsimp only; rw [hts]; exact hsl⟩ (by dsimp only; omega) (by dsimp only; rw [hts]; (repeat' (first | exact Sub.nil | refine Sub.cons ?_ ?_)); all_goals (first | rfl | exact lkInt rfl (by omega))) (Sub.cons rfl (Sub.cons rfl (Sub.cons rfl (Sub.cons rfl Sub.nil)))) (fun _ hq => (hq).cong (by dsimp only; rw [hts]; try rfl))
    ·
      have hke : k = im.length := by omega
      subst hke
      refine ct_exit ?_
      refine at_then_exit ?_
      refine at_then_exit ?_
      refine at_block_hit ?_
      refine at_then ?_
      refine ct_seq ?_
      refine ct_reg ?_
      refine rl_val gw_none (ov_move rfl) rfl ?_
      refine rl_val gw_none (ov_assign rfl) rfl ?_
      refine rl_val gw_none (ov_assign rfl) rfl ?_
      refine rl_nil ?_
      refine at_then ?_
      refine ct_ret ?_
      refine at_ret2 Try.results49 (ro_tmp rfl) (ro_tmp rfl) (fun w1 hp => ?_)
      first | (rw [lostR_no (show mindB u l xs cl im be gu = false by simpa using h1), show mindB u l xs cl im be gu = false by simpa using h1]; first | exact RetSl.nil hp.ext0 | exact RetSl.lit 0 hp rfl rfl (by decide)) | (rw [lostR_yes hok, hok]; exact RetSl.own 0 hp rfl hsl)
end Go.Proofs.Ytacaoicpmhdioaa
