import Derived.Test.YtacaoicpmhdioaaNe
import Derived.Test.YtacaoicpmhdioaaTp
import Derived.KernelRfl
set_option linter.unusedVariables false
set_option linter.unusedSimpArgs false
namespace Go.Proofs.Ytacaoicpmhdioaa
open Go Go.RowKit K
theorem iNumberInMind_c (u : Int) (l : Int) (xs : List IntA2) (cl : List Int) (im : List Int) (be : Int) (gu : Int) (vxs : Value) (vcl : Value) (vim : Value) (w : World) (zu : In64 u) (zl : In64 l) (hGxs : ∀ y ∈ xs, GIntA2 y) (hsxs : SR w 2 vxs xs.length (flat encIntA2 xs)) (hscl : SR w 1 vcl cl.length (ints cl)) (hsim : SR w 1 vim im.length (ints im)) (zbe : In64 be) (zgu : In64 gu) : Calls Try.prog 45 ([.agg (List.toArray (α := Value) [.int .i64 u, .int .i64 l, vxs, vcl, vim, .int .i64 be, .int .i64 gu])]).toArray w (fun e w' => e = .returned (.tuple #[.int .i64 (numMR (mindB u l xs cl im be gu) im).1, .bool (numMR (mindB u l xs cl im be gu) im).2]) ∧ Ext w w') := by
  obtain ⟨axs, capxs, rfl, hcapxs, hmaxxs⟩ := hsxs.slice
  have hlenxs := hsxs.len_le
  obtain ⟨acl, capcl, rfl, hcapcl, hmaxcl⟩ := hscl.slice
  have hlencl := hscl.len_le
  obtain ⟨aim, capim, rfl, hcapim, hmaxim⟩ := hsim.slice
  have hlenim := hsim.len_le
  refine calls_ct Try.func45 Try.ntmps45 rfl rfl ?_
  refine ct_seq ?_
  refine ct_reg ?_
  refine rl_box rfl rfl (fun N1 => ?_)
  refine rl_val gw_none (ov_assign rfl) rfl ?_
  refine rl_val gw_none (ov_assign rfl) rfl ?_
  refine rl_nil ?_
  refine at_then ?_
  refine ct_seq ?_
  refine ct_seq ?_
  refine ct_reg ?_
  first | refine rl_val gw_none (ov_loadall 0 ag56 rfl rfl rfl) rfl ?_ | refine rl_val gw_none (ov_loadp 0 ag56 rfl rfl (vs := [_, _, _, _, _, _, _]) rfl rfl) rfl ?_ | refine rl_val gw_none (ov_loada 0 ag56 rfl rfl rfl (by assumption)) rfl ?_
  refine rl_callv gw_none goes40 rfl (fun w1 hp => iIsMind_c u l xs cl im be gu _ _ _ _ zu zl hGxs (hsxs.ext hp.ext0) (hscl.ext hp.ext0) (hsim.ext hp.ext0) zbe zgu) rfl ?_
  refine rl_val gw_none (ov_not rfl) rfl ?_
  refine rl_nil ?_
  refine at_then ?_
  first | refine ct_dec rfl (fun h1 => ?_) (fun h1 => ?_) | refine ct_ndec rfl (fun h1 => ?_) (fun h1 => ?_) | refine ct_eq rfl (fun h1 => ?_) (fun h1 => ?_) | refine ct_ne rfl (fun h1 => ?_) (fun h1 => ?_) | refine ct_not rfl (fun h1 => ?_) (fun h1 => ?_) | refine ct_cond rfl (fun h1 => ?_) (fun h1 => ?_)
  ·
    refine ct_seq ?_
    refine ct_reg ?_
    refine rl_val gw_none (ov_assign rfl) rfl ?_
    refine rl_val gw_none (ov_assign rfl) rfl ?_
    refine rl_nil ?_
    refine at_then ?_
    refine ct_ret ?_
    refine at_then_ret ?_
    refine at_ret2 Try.results45 (ro_tmp rfl) (ro_tmp rfl) (fun w1 hp => ?_)
    refine ⟨?_, hp.ext0⟩
    first | (rw [numMR_no (show mindB u l xs cl im be gu = false by simpa using h1)]; first | done | rfl) | (rw [numMR_neg hxi (by omega)]; done) | (rw [numMR_yes hok hall, List.take_length]; done)
  ·
    have hok : mindB u l xs cl im be gu = true := by simpa using h1
    have hmh := mindB_h hok
    have hf := goodB_f hmh.1
    have hnb := numF_all hf
    refine ct_skip ?_
    refine at_then ?_
    refine ct_seq ?_
    refine ct_reg ?_
    refine rl_val gw_none (ov_assign rfl) rfl ?_
    refine rl_nil ?_
    refine at_then ?_
    refine ct_seq ?_
    refine ct_seq ?_
    refine ct_reg ?_
    refine rl_val gw_none (ov_field fo56_2 rfl) rfl ?_
    first | refine rl_val gw_none (ov_load 0 sc42 rfl rfl rfl) rfl ?_ | refine rl_val gw_none (ov_load 0 sc42 rfl rfl (by assumption)) rfl ?_
    refine rl_val gw_none (ov_len Try.underlying42 rfl) rfl ?_
    refine rl_val gw_none (ov_move rfl) rfl ?_
    refine rl_nil ?_
    refine at_then ?_
    refine ct_block ?_
    refine ct_loopR (ι := Nat) (fun k => [(4, .int .i64 (digN (im.take k))), (13, .int .i64 k)]) [(11, _), (12, _)] (fun _ => _) (fun k => k ≤ im.length ∧ (∀ (j : Nat) d, j < k → im[j]? = some d → 0 ≤ d) ∧ 0 ≤ digN (im.take k) ∧ digN (im.take k) ≤ p10 k - 1) (fun k => im.length - k) (0) (Sub.cons rfl (Sub.cons rfl Sub.nil)) (fun _ hq => hq) (by (repeat' (first | exact Sub.nil | refine Sub.cons ?_ ?_)); all_goals (first | rfl | exact lkInt rfl (by omega))) ⟨Nat.zero_le _, fun j d hj => absurd hj (Nat.not_lt_zero j), by simp [digN], by simp [digN, p10]⟩ (fun k hi => ?_)
    obtain ⟨hk, hall, hn0, hn1⟩ := hi
    have hpb := p10_bd (k := k) (by omega)
    have hps := p10_succ k
    refine ct_seq ?_
    refine ct_reg ?_
    refine rl_val gw_none (ov_lss rfl rfl) rfl ?_
    refine rl_nil ?_
    refine at_then ?_
    refine ct_seq ?_
    first | refine ct_dec rfl (fun h2 => ?_) (fun h2 => ?_) | refine ct_ndec rfl (fun h2 => ?_) (fun h2 => ?_) | refine ct_eq rfl (fun h2 => ?_) (fun h2 => ?_) | refine ct_ne rfl (fun h2 => ?_) (fun h2 => ?_) | refine ct_not rfl (fun h2 => ?_) (fun h2 => ?_) | refine ct_cond rfl (fun h2 => ?_) (fun h2 => ?_)
    ·
      have hk2 : k < im.length := by omega
      obtain ⟨bi, oi, rfl, hei⟩ := hsim.int hk2
      have hxi := getLt hk2
      obtain ⟨c, hxc⟩ : ∃ c, cl[k]? = some c := ⟨_, getLt (show k < cl.length by omega)⟩
      have hmb := mindB_at hok hxi hxc
      generalize im[k] = d at *
      have hci := hei k d hxi
      have hns := digN_snoc hxi
      refine ct_skip ?_
      refine at_then ?_
      refine ct_seq ?_
      refine ct_block ?_
      refine ct_seq ?_
      refine ct_reg ?_
      refine rl_val gw_none (ov_ix Try.underlying42 sz3 rfl rfl _ rfl (by omega)) rfl ?_
      first | refine rl_val gw_none (ov_load 0 sc3 rfl rfl rfl) rfl ?_ | refine rl_val gw_none (ov_load 1 sc3 rfl rfl rfl) rfl ?_ | refine rl_val gw_none (ov_load 2 sc3 rfl rfl rfl) rfl ?_ | refine rl_val gw_none (ov_load 3 sc3 rfl rfl rfl) rfl ?_ | refine rl_val gw_none (ov_loadw sc3 rfl (by assumption)) rfl ?_ | refine rl_val gw_none (ov_load 0 sc3 rfl rfl (by assumption)) rfl ?_ | refine rl_val gw_none (ov_load 1 sc3 rfl rfl (by assumption)) rfl ?_ | refine rl_val gw_none (ov_load 2 sc3 rfl rfl (by assumption)) rfl ?_ | refine rl_val gw_none (ov_load 3 sc3 rfl rfl (by assumption)) rfl ?_
      refine rl_val gw_none (ov_assign rfl) rfl ?_
      refine rl_nil ?_
      refine at_then ?_
      refine ct_seq ?_
      refine ct_seq ?_
      refine ct_reg ?_
      refine rl_val gw_none (ov_move rfl) rfl ?_
      refine rl_val gw_none (ov_lss rfl rfl) rfl ?_
      refine rl_nil ?_
      refine at_then ?_
      first | refine ct_dec rfl (fun h3 => ?_) (fun h3 => ?_) | refine ct_ndec rfl (fun h3 => ?_) (fun h3 => ?_) | refine ct_eq rfl (fun h3 => ?_) (fun h3 => ?_) | refine ct_ne rfl (fun h3 => ?_) (fun h3 => ?_) | refine ct_not rfl (fun h3 => ?_) (fun h3 => ?_) | refine ct_cond rfl (fun h3 => ?_) (fun h3 => ?_)
      ·
        refine ct_seq ?_
        refine ct_reg ?_
        refine rl_val gw_none (ov_assign rfl) rfl ?_
        refine rl_val gw_none (ov_assign rfl) rfl ?_
        refine rl_nil ?_
        refine at_then ?_
        refine ct_ret ?_
        refine at_then_ret ?_
        refine at_block_ret ?_
        refine at_then_ret ?_
        refine at_then_ret ?_
        refine at_block_ret ?_
        refine at_then_ret ?_
        refine at_ret2 Try.results45 (ro_tmp rfl) (ro_tmp rfl) (fun w1 hp => ?_)
        refine ⟨?_, hp.ext0⟩
        first | (rw [numMR_no (show mindB u l xs cl im be gu = false by simpa using h1)]; first | done | rfl) | (rw [numMR_neg hxi (by omega)]; done) | (rw [numMR_yes hok hall, List.take_length]; done)
      ·
        refine ct_skip ?_
        refine at_then ?_
        refine ct_reg ?_
        refine rl_val gw_none (ov_move rfl) rfl ?_
        refine rl_val gw_none (ov_mul rfl rfl (by omega)) rfl ?_
        refine rl_val gw_none (ov_move rfl) rfl ?_
        refine rl_val gw_none (ov_add rfl rfl (by omega)) rfl ?_
        refine rl_val gw_none (ov_assign rfl) rfl ?_
        refine rl_nil ?_
        refine at_block ?_
        refine at_then ?_
        refine ct_reg ?_
        refine rl_val gw_none (ov_add rfl rfl (by omega)) rfl ?_
        refine rl_val gw_none (ov_move rfl) rfl ?_
        refine rl_nil ?_
        exact at_backR (k + 1) ⟨hk2, fun j d2 hj hj2 => by by_cases hjk : j = k; exact (by subst hjk; rw [hxi] at hj2; obtain rfl := Option.some.inj hj2; omega); exact hall j d2 (by omega) hj2, by omega, by omega⟩ (by first | exact True.intro | omega | (dsimp only; omega) | (dsimp only at *; omega)) (by (repeat' (first | exact Sub.nil | refine Sub.cons ?_ ?_)); all_goals (first | rfl | exact lkInt rfl (by omega))) (Sub.cons rfl (Sub.cons rfl Sub.nil)) (fun _ hq => hq)
    ·
      have hke : k = im.length := by omega
      subst hke
      refine ct_exit ?_
      refine at_then_exit ?_
      refine at_then_exit ?_
      refine at_block_hit ?_
      refine at_then ?_
      refine ct_seq ?_
      refine ct_reg ?_
      refine rl_val gw_none (ov_move rfl) rfl ?_
      refine rl_val gw_none (ov_assign rfl) rfl ?_
      refine rl_val gw_none (ov_assign rfl) rfl ?_
      refine rl_nil ?_
      refine at_then ?_
      refine ct_ret ?_
      refine at_ret2 Try.results45 (ro_tmp rfl) (ro_tmp rfl) (fun w1 hp => ?_)
      refine ⟨?_, hp.ext0⟩
      first | (rw [numMR_no (show mindB u l xs cl im be gu = false by simpa using h1)]; first | done | rfl) | (rw [numMR_neg hxi (by omega)]; done) | (rw [numMR_yes hok hall, List.take_length]; done)

theorem sNumberInMind_c (u : Int) (l : Int) (xs : List IntA2) (cl : List Int) (im : List Int) (be : Int) (gu : Int) (vxs : Value) (vcl : Value) (vim : Value) (w : World) (zu : In64 u) (zl : In64 l) (hGxs : ∀ y ∈ xs, GIntA2 y) (hsxs : SR w 2 vxs xs.length (flat encIntA2 xs)) (hscl : SR w 1 vcl cl.length (ints cl)) (hsim : SR w 1 vim im.length (ints im)) (zbe : In64 be) (zgu : In64 gu) : Calls Try.prog 44 ([.agg (List.toArray (α := Value) [.int .i64 u, .int .i64 l, vxs, vcl, vim, .int .i64 be, .int .i64 gu])]).toArray w (fun e w' => e = .returned (.tuple #[.int .i64 (numMR (mindB u l xs cl im be gu) im).1, .bool (numMR (mindB u l xs cl im be gu) im).2]) ∧ Ext w w') := by
  obtain ⟨axs, capxs, rfl, hcapxs, hmaxxs⟩ := hsxs.slice
  have hlenxs := hsxs.len_le
  obtain ⟨acl, capcl, rfl, hcapcl, hmaxcl⟩ := hscl.slice
  have hlencl := hscl.len_le
  obtain ⟨aim, capim, rfl, hcapim, hmaxim⟩ := hsim.slice
  have hlenim := hsim.len_le
  refine calls_ct Try.func44 Try.ntmps44 rfl rfl ?_
  refine ct_seq ?_
  refine ct_reg ?_
  refine rl_box rfl rfl (fun N1 => ?_)
  refine rl_val gw_none (ov_assign rfl) rfl ?_
  refine rl_val gw_none (ov_assign rfl) rfl ?_
  refine rl_nil ?_
  refine at_then ?_
  refine ct_seq ?_
  refine ct_seq ?_
  refine ct_reg ?_
  first | refine rl_val gw_none (ov_loadall 0 ag56 rfl rfl rfl) rfl ?_ | refine rl_val gw_none (ov_loadp 0 ag56 rfl rfl (vs := [_, _, _, _, _, _, _]) rfl rfl) rfl ?_ | refine rl_val gw_none (ov_loada 0 ag56 rfl rfl rfl (by assumption)) rfl ?_
  refine rl_callv gw_none goes71 rfl (fun w1 hp => l21Good_c u l xs cl im be gu _ _ _ _ zu zl hGxs (hsxs.ext hp.ext0) (hscl.ext hp.ext0) (hsim.ext hp.ext0) zbe zgu) rfl ?_
  refine rl_val gw_none (ov_not rfl) rfl ?_
  refine rl_val gw_none (ov_move rfl) rfl ?_
  refine rl_split (t := 9) rfl (fun g1 => ?_) (fun g1 => ?_)
  ·
    have g1' := g1
    try simp only [Bool.not_eq_true', Bool.not_eq_false', Bool.not_not, decide_eq_true_eq, decide_eq_false_iff_not, beq_iff_eq, beq_eq_false_iff_ne, bne_iff_ne, bne_eq_false_iff_eq, Bool.and_eq_true, Bool.or_eq_true, Bool.and_eq_false_iff, Bool.or_eq_false_iff, inB] at g1'
    refine rl_skip (gw_not rfl rfl g1) rfl ?_
    refine rl_skip (gw_not rfl rfl g1) rfl ?_
    refine rl_skip (gw_not rfl rfl g1) rfl ?_
    refine rl_skip (gw_not rfl rfl g1) rfl ?_
    refine rl_val gw_none (ov_pick_t rfl g1 rfl) rfl ?_
    refine rl_nil ?_
    refine at_then ?_
    refine ct_true rfl rfl ?_
    refine ct_seq ?_
    refine ct_reg ?_
    refine rl_val gw_none (ov_assign rfl) rfl ?_
    refine rl_val gw_none (ov_assign rfl) rfl ?_
    refine rl_nil ?_
    refine at_then ?_
    refine ct_ret ?_
    refine at_then_ret ?_
    refine at_ret2 Try.results44 (ro_tmp rfl) (ro_tmp rfl) (fun w1 hp => ?_)
    refine ⟨?_, hp.ext0⟩
    first | (rw [numMR_no (show mindB u l xs cl im be gu = false by simpa using g1)]; first | done | rfl) | (rw [numMR_lost (by intro hq; rw [hq] at h1; simp at h1)]; done) | (rw [numMR_yes hok hall, List.take_length]; done)
  ·
    have hok : mindB u l xs cl im be gu = true := by simpa using g1
    have hmh := mindB_h hok
    have hf := goodB_f hmh.1
    have hnb := numF_all hf
    first | refine rl_val (gw_some rfl rfl g1) (ov_loadall 0 ag56 rfl rfl rfl) rfl ?_ | refine rl_val (gw_some rfl rfl g1) (ov_loadp 0 ag56 rfl rfl (vs := [_, _, _, _, _, _, _]) rfl rfl) rfl ?_ | refine rl_val (gw_some rfl rfl g1) (ov_loada 0 ag56 rfl rfl rfl (by assumption)) rfl ?_
    refine rl_callslg (ι := Nat × List Value) (fun i bo => sv bo (lostP im im.length).length i.1) (fun i => ints (lostP im im.length) ++ i.2) (fun i bo => Sl 1 bo (lostP im im.length).length i.1 (ints (lostP im im.length)) i.2) (gw_some rfl rfl g1) goes76 rfl (fun w1 hp => l21Lost_c u l xs cl im be gu _ _ _ _ zu zl hGxs (hsxs.ext hp.ext0) (hscl.ext hp.ext0) (hsim.ext hp.ext0) zbe zgu hok) rfl (fun ils bols hsls => ?_)
    refine rl_val (gw_some rfl rfl g1) (ov_len Try.underlying42 rfl) rfl ?_
    refine rl_val (gw_some rfl rfl g1) (ov_gtr rfl rfl) rfl ?_
    refine rl_val gw_none (ov_pick_f rfl g1 rfl) rfl ?_
    refine rl_nil ?_
    refine at_then ?_
    first | refine ct_dec rfl (fun h1 => ?_) (fun h1 => ?_) | refine ct_ndec rfl (fun h1 => ?_) (fun h1 => ?_) | refine ct_eq rfl (fun h1 => ?_) (fun h1 => ?_) | refine ct_ne rfl (fun h1 => ?_) (fun h1 => ?_) | refine ct_not rfl (fun h1 => ?_) (fun h1 => ?_) | refine ct_cond rfl (fun h1 => ?_) (fun h1 => ?_)
    ·
      refine ct_seq ?_
      refine ct_reg ?_
      refine rl_val gw_none (ov_assign rfl) rfl ?_
      refine rl_val gw_none (ov_assign rfl) rfl ?_
      refine rl_nil ?_
      refine at_then ?_
      refine ct_ret ?_
      refine at_then_ret ?_
      refine at_ret2 Try.results44 (ro_tmp rfl) (ro_tmp rfl) (fun w1 hp => ?_)
      refine ⟨?_, hp.ext0⟩
      first | (rw [numMR_no (show mindB u l xs cl im be gu = false by simpa using g1)]; first | done | rfl) | (rw [numMR_lost (by intro hq; rw [hq] at h1; simp at h1)]; done) | (rw [numMR_yes hok hall, List.take_length]; done)
    ·
      have hln : lostP im im.length = [] := List.length_eq_zero_iff.1 (by have hq := h1; simp only [decide_eq_true_eq, gt_iff_lt] at hq; omega)
      have hpos := (lostP_nil (Nat.le_refl _)).1 hln
      refine ct_skip ?_
      refine at_then ?_
      refine ct_seq ?_
      refine ct_reg ?_
      refine rl_val gw_none (ov_assign rfl) rfl ?_
      refine rl_nil ?_
      refine at_then ?_
      refine ct_seq ?_
      refine ct_seq ?_
      refine ct_reg ?_
      refine rl_val gw_none (ov_assign rfl) rfl ?_
      refine rl_nil ?_
      refine at_then ?_
      refine ct_block ?_
      refine ct_loopR (ι := Nat) (fun k => [(4, .int .i64 (digN (im.take k))), (5, .int .i64 k)]) [(1, _), (2, _), (3, _)] (fun _ => _) (fun k => k ≤ im.length ∧ (∀ (j : Nat) d, j < k → im[j]? = some d → 0 ≤ d) ∧ 0 ≤ digN (im.take k) ∧ digN (im.take k) ≤ p10 k - 1) (fun k => im.length - k) (0) (Sub.cons rfl (Sub.cons rfl (Sub.cons rfl Sub.nil))) (fun _ hq => hq) (by (repeat' (first | exact Sub.nil | refine Sub.cons ?_ ?_)); all_goals (first | rfl | exact lkInt rfl (by omega))) ⟨Nat.zero_le _, fun j d hj => absurd hj (Nat.not_lt_zero j), by simp [digN], by simp [digN, p10]⟩ (fun k hi => ?_)
      obtain ⟨hk, hall, hn0, hn1⟩ := hi
      have hpb := p10_bd (k := k) (by omega)
      have hps := p10_succ k
      refine ct_seq ?_
      refine ct_seq ?_
      refine ct_reg ?_
      refine rl_val gw_none (ov_move rfl) rfl ?_
      refine rl_val gw_none (ov_field fo56_2 rfl) rfl ?_
      first | refine rl_val gw_none (ov_load 0 sc42 rfl rfl rfl) rfl ?_ | refine rl_val gw_none (ov_load 1 sc42 rfl rfl rfl) rfl ?_ | refine rl_val gw_none (ov_load 2 sc42 rfl rfl rfl) rfl ?_ | refine rl_val gw_none (ov_load 3 sc42 rfl rfl rfl) rfl ?_ | refine rl_val gw_none (ov_loadw sc42 rfl (by assumption)) rfl ?_ | refine rl_val gw_none (ov_load 0 sc42 rfl rfl (by assumption)) rfl ?_ | refine rl_val gw_none (ov_load 1 sc42 rfl rfl (by assumption)) rfl ?_ | refine rl_val gw_none (ov_load 2 sc42 rfl rfl (by assumption)) rfl ?_ | refine rl_val gw_none (ov_load 3 sc42 rfl rfl (by assumption)) rfl ?_
      refine rl_val gw_none (ov_len Try.underlying42 rfl) rfl ?_
      refine rl_val gw_none (ov_lss rfl rfl) rfl ?_
      refine rl_nil ?_
      refine at_then ?_
      first | refine ct_dec rfl (fun h2 => ?_) (fun h2 => ?_) | refine ct_ndec rfl (fun h2 => ?_) (fun h2 => ?_) | refine ct_eq rfl (fun h2 => ?_) (fun h2 => ?_) | refine ct_ne rfl (fun h2 => ?_) (fun h2 => ?_) | refine ct_not rfl (fun h2 => ?_) (fun h2 => ?_) | refine ct_cond rfl (fun h2 => ?_) (fun h2 => ?_)
      ·
        have hk2 : k < im.length := by omega
        obtain ⟨bi, oi, rfl, hei⟩ := hsim.int hk2
        have hxi := getLt hk2
        obtain ⟨c, hxc⟩ : ∃ c, cl[k]? = some c := ⟨_, getLt (show k < cl.length by omega)⟩
        have hmb := mindB_at hok hxi hxc
        generalize im[k] = d at *
        have hci := hei k d hxi
        have hns := digN_snoc hxi
        have hd0 := hpos k d hk2 hxi
        refine ct_skip ?_
        refine at_then ?_
        refine ct_seq ?_
        refine ct_block ?_
        refine ct_reg ?_
        refine rl_val gw_none (ov_move rfl) rfl ?_
        refine rl_val gw_none (ov_mul rfl rfl (by omega)) rfl ?_
        refine rl_val gw_none (ov_field fo56_2 rfl) rfl ?_
        first | refine rl_val gw_none (ov_load 0 sc42 rfl rfl rfl) rfl ?_ | refine rl_val gw_none (ov_load 1 sc42 rfl rfl rfl) rfl ?_ | refine rl_val gw_none (ov_load 2 sc42 rfl rfl rfl) rfl ?_ | refine rl_val gw_none (ov_load 3 sc42 rfl rfl rfl) rfl ?_ | refine rl_val gw_none (ov_loadw sc42 rfl (by assumption)) rfl ?_ | refine rl_val gw_none (ov_load 0 sc42 rfl rfl (by assumption)) rfl ?_ | refine rl_val gw_none (ov_load 1 sc42 rfl rfl (by assumption)) rfl ?_ | refine rl_val gw_none (ov_load 2 sc42 rfl rfl (by assumption)) rfl ?_ | refine rl_val gw_none (ov_load 3 sc42 rfl rfl (by assumption)) rfl ?_
        refine rl_val gw_none (ov_move rfl) rfl ?_
        refine rl_val gw_none (ov_ix Try.underlying42 sz3 rfl rfl _ rfl (by omega)) rfl ?_
        first | refine rl_val gw_none (ov_load 0 sc3 rfl rfl rfl) rfl ?_ | refine rl_val gw_none (ov_load 1 sc3 rfl rfl rfl) rfl ?_ | refine rl_val gw_none (ov_load 2 sc3 rfl rfl rfl) rfl ?_ | refine rl_val gw_none (ov_load 3 sc3 rfl rfl rfl) rfl ?_ | refine rl_val gw_none (ov_loadw sc3 rfl (by assumption)) rfl ?_ | refine rl_val gw_none (ov_load 0 sc3 rfl rfl (by assumption)) rfl ?_ | refine rl_val gw_none (ov_load 1 sc3 rfl rfl (by assumption)) rfl ?_ | refine rl_val gw_none (ov_load 2 sc3 rfl rfl (by assumption)) rfl ?_ | refine rl_val gw_none (ov_load 3 sc3 rfl rfl (by assumption)) rfl ?_
        refine rl_val gw_none (ov_add rfl rfl (by omega)) rfl ?_
        refine rl_val gw_none (ov_assign rfl) rfl ?_
        refine rl_nil ?_
        refine at_block ?_
        refine at_then ?_
        refine ct_reg ?_
        refine rl_val gw_none (ov_move rfl) rfl ?_
        refine rl_val gw_none (ov_add rfl rfl (by omega)) rfl ?_
        refine rl_val gw_none (ov_assign rfl) rfl ?_
        refine rl_nil ?_
        exact at_backR (k + 1) ⟨hk2, fun j d2 hj hj2 => by by_cases hjk : j = k; exact (by subst hjk; rw [hxi] at hj2; obtain rfl := Option.some.inj hj2; omega); exact hall j d2 (by omega) hj2, by omega, by omega⟩ (by first | exact True.intro | omega | (dsimp only; omega) | (dsimp only at *; omega)) (by (repeat' (first | exact Sub.nil | refine Sub.cons ?_ ?_)); all_goals (first | rfl | exact lkInt rfl (by omega))) (Sub.cons rfl (Sub.cons rfl (Sub.cons rfl Sub.nil))) (fun _ hq => hq)
      ·
        have hke : k = im.length := by omega
        subst hke
        refine ct_exit ?_
        refine at_then_exit ?_
        refine at_then_exit ?_
        refine at_block_hit ?_
        refine at_then ?_
        refine ct_seq ?_
        refine ct_reg ?_
        refine rl_val gw_none (ov_move rfl) rfl ?_
        refine rl_val gw_none (ov_assign rfl) rfl ?_
        refine rl_val gw_none (ov_assign rfl) rfl ?_
        refine rl_nil ?_
        refine at_then ?_
        refine ct_ret ?_
        refine at_ret2 Try.results44 (ro_tmp rfl) (ro_tmp rfl) (fun w1 hp => ?_)
        refine ⟨?_, hp.ext0⟩
        first | (rw [numMR_no (show mindB u l xs cl im be gu = false by simpa using g1)]; first | done | rfl) | (rw [numMR_lost (by intro hq; rw [hq] at h1; simp at h1)]; done) | (rw [numMR_yes hok hall, List.take_length]; done)

theorem iBeatsLeft_c (u : Int) (l : Int) (xs : List IntA2) (cl : List Int) (im : List Int) (be : Int) (gu : Int) (vxs : Value) (vcl : Value) (vim : Value) (w : World) (zu : In64 u) (zl : In64 l) (hGxs : ∀ y ∈ xs, GIntA2 y) (hsxs : SR w 2 vxs xs.length (flat encIntA2 xs)) (hscl : SR w 1 vcl cl.length (ints cl)) (hsim : SR w 1 vim im.length (ints im)) (zbe : In64 be) (zgu : In64 gu) : Calls Try.prog 43 ([.agg (List.toArray (α := Value) [.int .i64 u, .int .i64 l, vxs, vcl, vim, .int .i64 be, .int .i64 gu])]).toArray w (fun e w' => e = .returned (.tuple #[.int .i64 (beatR (mindB u l xs cl im be gu) cl).1, .bool (beatR (mindB u l xs cl im be gu) cl).2]) ∧ Ext w w') := by
  obtain ⟨axs, capxs, rfl, hcapxs, hmaxxs⟩ := hsxs.slice
  have hlenxs := hsxs.len_le
  obtain ⟨acl, capcl, rfl, hcapcl, hmaxcl⟩ := hscl.slice
  have hlencl := hscl.len_le
  obtain ⟨aim, capim, rfl, hcapim, hmaxim⟩ := hsim.slice
  have hlenim := hsim.len_le
  refine calls_ct Try.func43 Try.ntmps43 rfl rfl ?_
  refine ct_seq ?_
  refine ct_reg ?_
  refine rl_box rfl rfl (fun N1 => ?_)
  refine rl_val gw_none (ov_assign rfl) rfl ?_
  refine rl_val gw_none (ov_assign rfl) rfl ?_
  refine rl_nil ?_
  refine at_then ?_
  refine ct_seq ?_
  refine ct_seq ?_
  refine ct_reg ?_
  first | refine rl_val gw_none (ov_loadall 0 ag56 rfl rfl rfl) rfl ?_ | refine rl_val gw_none (ov_loadp 0 ag56 rfl rfl (vs := [_, _, _, _, _, _, _]) rfl rfl) rfl ?_ | refine rl_val gw_none (ov_loada 0 ag56 rfl rfl rfl (by assumption)) rfl ?_
  refine rl_callv gw_none goes40 rfl (fun w1 hp => iIsMind_c u l xs cl im be gu _ _ _ _ zu zl hGxs (hsxs.ext hp.ext0) (hscl.ext hp.ext0) (hsim.ext hp.ext0) zbe zgu) rfl ?_
  refine rl_val gw_none (ov_not rfl) rfl ?_
  refine rl_nil ?_
  refine at_then ?_
  first | refine ct_dec rfl (fun h1 => ?_) (fun h1 => ?_) | refine ct_ndec rfl (fun h1 => ?_) (fun h1 => ?_) | refine ct_eq rfl (fun h1 => ?_) (fun h1 => ?_) | refine ct_ne rfl (fun h1 => ?_) (fun h1 => ?_) | refine ct_not rfl (fun h1 => ?_) (fun h1 => ?_) | refine ct_cond rfl (fun h1 => ?_) (fun h1 => ?_)
  ·
    refine ct_seq ?_
    refine ct_reg ?_
    refine rl_val gw_none (ov_assign rfl) rfl ?_
    refine rl_val gw_none (ov_assign rfl) rfl ?_
    refine rl_nil ?_
    refine at_then ?_
    refine ct_ret ?_
    refine at_then_ret ?_
    refine at_ret2 Try.results43 (ro_tmp rfl) (ro_tmp rfl) (fun w1 hp => ?_)
    refine ⟨?_, hp.ext0⟩
    first | (rw [beatR_no (show mindB u l xs cl im be gu = false by simpa using h1)]; first | done | rfl) | (rw [beatR_yes hok hmn]; done)
  ·
    have hok : mindB u l xs cl im be gu = true := by simpa using h1
    have hmh := mindB_h hok
    have hf := goodB_f hmh.1
    have hnb := numF_all hf
    refine ct_skip ?_
    refine at_then ?_
    refine ct_seq ?_
    refine ct_reg ?_
    refine rl_val gw_none (ov_assign rfl) rfl ?_
    refine rl_nil ?_
    refine at_then ?_
    refine ct_seq ?_
    refine ct_seq ?_
    refine ct_reg ?_
    refine rl_val gw_none (ov_field fo56_2 rfl) rfl ?_
    first | refine rl_val gw_none (ov_load 0 sc42 rfl rfl rfl) rfl ?_ | refine rl_val gw_none (ov_load 0 sc42 rfl rfl (by assumption)) rfl ?_
    refine rl_val gw_none (ov_len Try.underlying42 rfl) rfl ?_
    refine rl_val gw_none (ov_move rfl) rfl ?_
    refine rl_nil ?_
    refine at_then ?_
    refine ct_block ?_
    refine ct_loopR (ι := Nat × Int) (fun p => [(4, .int .i64 p.2), (13, .int .i64 p.1)]) [(1, _), (2, _), (3, _), (11, _), (12, _)] (fun _ => _) (fun p => p.1 ≤ im.length ∧ 0 ≤ p.2 ∧ p.2 = leastN cl p.1) (fun p => im.length - p.1) ((0, 0)) (Sub.cons rfl (Sub.cons rfl (Sub.cons rfl (Sub.cons rfl (Sub.cons rfl Sub.nil))))) (fun _ hq => hq) (by (repeat' (first | exact Sub.nil | refine Sub.cons ?_ ?_)); all_goals (first | rfl | exact lkInt rfl (by omega))) ⟨Nat.zero_le _, Int.le_refl _, rfl⟩ (fun p hp0 => ?_)
    obtain ⟨k, mn⟩ := p
    obtain ⟨hk, hm0, hmn⟩ := hp0
    dsimp only at hk hm0 hmn
    try dsimp only
    refine ct_seq ?_
    refine ct_reg ?_
    refine rl_val gw_none (ov_lss rfl rfl) rfl ?_
    refine rl_nil ?_
    refine at_then ?_
    refine ct_seq ?_
    first | refine ct_dec rfl (fun h2 => ?_) (fun h2 => ?_) | refine ct_ndec rfl (fun h2 => ?_) (fun h2 => ?_) | refine ct_eq rfl (fun h2 => ?_) (fun h2 => ?_) | refine ct_ne rfl (fun h2 => ?_) (fun h2 => ?_) | refine ct_not rfl (fun h2 => ?_) (fun h2 => ?_) | refine ct_cond rfl (fun h2 => ?_) (fun h2 => ?_)
    ·
      have hk2 : k < im.length := by omega
      obtain ⟨bc, oc, rfl, hec⟩ := hscl.int (show k < cl.length by omega)
      obtain ⟨bi, oi, rfl, hei⟩ := hsim.int (show k < im.length by omega)
      have hxc := getLt (show k < cl.length by omega)
      have hxi := getLt (show k < im.length by omega)
      have hmb := mindB_at hok hxi hxc
      generalize cl[k] = c at *
      generalize im[k] = d at *
      have hcc := hec k c hxc
      have hci := hei k d hxi
      refine ct_skip ?_
      refine at_then ?_
      refine ct_seq ?_
      refine ct_block ?_
      refine ct_seq ?_
      refine ct_reg ?_
      refine rl_val gw_none (ov_move rfl) rfl ?_
      refine rl_val gw_none (ov_ix Try.underlying42 sz3 rfl rfl _ rfl (by omega)) rfl ?_
      first | refine rl_val gw_none (ov_load 0 sc3 rfl rfl rfl) rfl ?_ | refine rl_val gw_none (ov_load 1 sc3 rfl rfl rfl) rfl ?_ | refine rl_val gw_none (ov_load 2 sc3 rfl rfl rfl) rfl ?_ | refine rl_val gw_none (ov_load 3 sc3 rfl rfl rfl) rfl ?_ | refine rl_val gw_none (ov_loadw sc3 rfl (by assumption)) rfl ?_ | refine rl_val gw_none (ov_load 0 sc3 rfl rfl (by assumption)) rfl ?_ | refine rl_val gw_none (ov_load 1 sc3 rfl rfl (by assumption)) rfl ?_ | refine rl_val gw_none (ov_load 2 sc3 rfl rfl (by assumption)) rfl ?_ | refine rl_val gw_none (ov_load 3 sc3 rfl rfl (by assumption)) rfl ?_
      refine rl_val gw_none (ov_assign rfl) rfl ?_
      refine rl_val gw_none (ov_assign rfl) rfl ?_
      refine rl_nil ?_
      refine at_then ?_
      refine ct_seq ?_
      refine ct_reg ?_
      refine rl_val gw_none (ov_move rfl) rfl ?_
      refine rl_val gw_none (ov_geq rfl rfl) rfl ?_
      refine rl_val gw_none (ov_move rfl) rfl ?_
      refine rl_split (t := 20) rfl (fun g1 => ?_) (fun g1 => ?_)
      ·
        have g1' := g1
        try simp only [Bool.not_eq_true', Bool.not_eq_false', Bool.not_not, decide_eq_true_eq, decide_eq_false_iff_not, beq_iff_eq, beq_eq_false_iff_ne, bne_iff_ne, bne_eq_false_iff_eq, Bool.and_eq_true, Bool.or_eq_true, Bool.and_eq_false_iff, Bool.or_eq_false_iff, inB] at g1'
        refine rl_val (gw_some rfl rfl g1) (ov_move rfl) rfl ?_
        refine rl_val (gw_some rfl rfl g1) (ov_eql rfl rfl) rfl ?_
        refine rl_val (gw_some rfl rfl g1) (ov_move rfl) rfl ?_
        refine rl_split (t := 23) rfl (fun g2 => ?_) (fun g2 => ?_)
        ·
          have g2' := g2
          try simp only [Bool.not_eq_true', Bool.not_eq_false', Bool.not_not, decide_eq_true_eq, decide_eq_false_iff_not, beq_iff_eq, beq_eq_false_iff_ne, bne_iff_ne, bne_eq_false_iff_eq, Bool.and_eq_true, Bool.or_eq_true, Bool.and_eq_false_iff, Bool.or_eq_false_iff, inB] at g2'
          refine rl_skip (gw_not rfl rfl g2) rfl ?_
          refine rl_skip (gw_not rfl rfl g2) rfl ?_
          refine rl_skip (gw_not rfl rfl g2) rfl ?_
          refine rl_skip (gw_not rfl rfl g2) rfl ?_
          refine rl_skip (gw_not rfl rfl g2) rfl ?_
          refine rl_skip (gw_not rfl rfl g2) rfl ?_
          refine rl_skip (gw_not rfl rfl g2) rfl ?_
          refine rl_val (gw_some rfl rfl g1) (ov_pick_t rfl g2 rfl) rfl ?_
          refine rl_val gw_none (ov_pick_t rfl g1 rfl) rfl ?_
          refine rl_nil ?_
          refine at_then ?_
          refine ct_true rfl rfl ?_
          refine ct_reg ?_
          refine rl_val gw_none (ov_field fo56_1 rfl) rfl ?_
          first | refine rl_val gw_none (ov_load 0 sc42 rfl rfl rfl) rfl ?_ | refine rl_val gw_none (ov_load 0 sc42 rfl rfl (by assumption)) rfl ?_
          refine rl_val gw_none (ov_move rfl) rfl ?_
          refine rl_val gw_none (ov_ix Try.underlying42 sz3 rfl rfl _ rfl (by omega)) rfl ?_
          first | refine rl_val gw_none (ov_load 0 sc3 rfl rfl rfl) rfl ?_ | refine rl_val gw_none (ov_load 1 sc3 rfl rfl rfl) rfl ?_ | refine rl_val gw_none (ov_load 2 sc3 rfl rfl rfl) rfl ?_ | refine rl_val gw_none (ov_load 3 sc3 rfl rfl rfl) rfl ?_ | refine rl_val gw_none (ov_loadw sc3 rfl (by assumption)) rfl ?_ | refine rl_val gw_none (ov_load 0 sc3 rfl rfl (by assumption)) rfl ?_ | refine rl_val gw_none (ov_load 1 sc3 rfl rfl (by assumption)) rfl ?_ | refine rl_val gw_none (ov_load 2 sc3 rfl rfl (by assumption)) rfl ?_ | refine rl_val gw_none (ov_load 3 sc3 rfl rfl (by assumption)) rfl ?_
          refine rl_val gw_none (ov_assign rfl) rfl ?_
          refine rl_nil ?_
          refine at_block ?_
          refine at_then ?_
          refine ct_reg ?_
          refine rl_val gw_none (ov_add rfl rfl (by omega)) rfl ?_
          refine rl_val gw_none (ov_move rfl) rfl ?_
          refine rl_nil ?_
          have hbn := leastN_yes hmn hxc (by first | omega | (simp at *; omega)) (by first | (left; simpa using g2); done | (right; simpa using h3) | (right; simpa using h4) | (simp_all; omega))
          exact at_backR (k + 1, c) ⟨hk2, by dsimp only; omega, hbn⟩ (by dsimp only at *; omega) (by (repeat' (first | exact Sub.nil | refine Sub.cons ?_ ?_)); all_goals (first | rfl | exact lkInt rfl (by omega))) (Sub.cons rfl (Sub.cons rfl (Sub.cons rfl (Sub.cons rfl (Sub.cons rfl Sub.nil))))) (fun _ hq => hq)
        ·
          have g2' := g2
          try simp only [Bool.not_eq_true', Bool.not_eq_false', Bool.not_not, decide_eq_true_eq, decide_eq_false_iff_not, beq_iff_eq, beq_eq_false_iff_ne, bne_iff_ne, bne_eq_false_iff_eq, Bool.and_eq_true, Bool.or_eq_true, Bool.and_eq_false_iff, Bool.or_eq_false_iff, inB] at g2'
          refine rl_val (gw_some rfl rfl g2) (ov_field fo56_1 rfl) rfl ?_
          first | refine rl_val (gw_some rfl rfl g2) (ov_load 0 sc42 rfl rfl rfl) rfl ?_ | refine rl_val (gw_some rfl rfl g2) (ov_load 0 sc42 rfl rfl (by assumption)) rfl ?_
          refine rl_val (gw_some rfl rfl g2) (ov_move rfl) rfl ?_
          refine rl_val (gw_some rfl rfl g2) (ov_ix Try.underlying42 sz3 rfl rfl _ rfl (by omega)) rfl ?_
          first | refine rl_val (gw_some rfl rfl g2) (ov_load 0 sc3 rfl rfl rfl) rfl ?_ | refine rl_val (gw_some rfl rfl g2) (ov_load 1 sc3 rfl rfl rfl) rfl ?_ | refine rl_val (gw_some rfl rfl g2) (ov_load 2 sc3 rfl rfl rfl) rfl ?_ | refine rl_val (gw_some rfl rfl g2) (ov_load 3 sc3 rfl rfl rfl) rfl ?_ | refine rl_val (gw_some rfl rfl g2) (ov_loadw sc3 rfl (by assumption)) rfl ?_ | refine rl_val (gw_some rfl rfl g2) (ov_load 0 sc3 rfl rfl (by assumption)) rfl ?_ | refine rl_val (gw_some rfl rfl g2) (ov_load 1 sc3 rfl rfl (by assumption)) rfl ?_ | refine rl_val (gw_some rfl rfl g2) (ov_load 2 sc3 rfl rfl (by assumption)) rfl ?_ | refine rl_val (gw_some rfl rfl g2) (ov_load 3 sc3 rfl rfl (by assumption)) rfl ?_
          refine rl_val (gw_some rfl rfl g2) (ov_move rfl) rfl ?_
          refine rl_val (gw_some rfl rfl g2) (ov_lss rfl rfl) rfl ?_
          refine rl_val (gw_some rfl rfl g1) (ov_pick_f rfl g2 rfl) rfl ?_
          refine rl_val gw_none (ov_pick_t rfl g1 rfl) rfl ?_
          refine rl_nil ?_
          refine at_then ?_
          first | refine ct_dec rfl (fun h3 => ?_) (fun h3 => ?_) | refine ct_ndec rfl (fun h3 => ?_) (fun h3 => ?_) | refine ct_eq rfl (fun h3 => ?_) (fun h3 => ?_) | refine ct_ne rfl (fun h3 => ?_) (fun h3 => ?_) | refine ct_not rfl (fun h3 => ?_) (fun h3 => ?_) | refine ct_cond rfl (fun h3 => ?_) (fun h3 => ?_)
          ·
            refine ct_reg ?_
            refine rl_val gw_none (ov_field fo56_1 rfl) rfl ?_
            first | refine rl_val gw_none (ov_load 0 sc42 rfl rfl rfl) rfl ?_ | refine rl_val gw_none (ov_load 0 sc42 rfl rfl (by assumption)) rfl ?_
            refine rl_val gw_none (ov_move rfl) rfl ?_
            refine rl_val gw_none (ov_ix Try.underlying42 sz3 rfl rfl _ rfl (by omega)) rfl ?_
            first | refine rl_val gw_none (ov_load 0 sc3 rfl rfl rfl) rfl ?_ | refine rl_val gw_none (ov_load 1 sc3 rfl rfl rfl) rfl ?_ | refine rl_val gw_none (ov_load 2 sc3 rfl rfl rfl) rfl ?_ | refine rl_val gw_none (ov_load 3 sc3 rfl rfl rfl) rfl ?_ | refine rl_val gw_none (ov_loadw sc3 rfl (by assumption)) rfl ?_ | refine rl_val gw_none (ov_load 0 sc3 rfl rfl (by assumption)) rfl ?_ | refine rl_val gw_none (ov_load 1 sc3 rfl rfl (by assumption)) rfl ?_ | refine rl_val gw_none (ov_load 2 sc3 rfl rfl (by assumption)) rfl ?_ | refine rl_val gw_none (ov_load 3 sc3 rfl rfl (by assumption)) rfl ?_
            refine rl_val gw_none (ov_assign rfl) rfl ?_
            refine rl_nil ?_
            refine at_block ?_
            refine at_then ?_
            refine ct_reg ?_
            refine rl_val gw_none (ov_add rfl rfl (by omega)) rfl ?_
            refine rl_val gw_none (ov_move rfl) rfl ?_
            refine rl_nil ?_
            have hbn := leastN_yes hmn hxc (by first | omega | (simp at *; omega)) (by first | (left; simpa using g2); done | (right; simpa using h3) | (right; simpa using h4) | (simp_all; omega))
            exact at_backR (k + 1, c) ⟨hk2, by dsimp only; omega, hbn⟩ (by dsimp only at *; omega) (by (repeat' (first | exact Sub.nil | refine Sub.cons ?_ ?_)); all_goals (first | rfl | exact lkInt rfl (by omega))) (Sub.cons rfl (Sub.cons rfl (Sub.cons rfl (Sub.cons rfl (Sub.cons rfl Sub.nil))))) (fun _ hq => hq)
          ·
            refine ct_skip ?_
            refine at_block ?_
            refine at_then ?_
            refine ct_reg ?_
            refine rl_val gw_none (ov_add rfl rfl (by omega)) rfl ?_
            refine rl_val gw_none (ov_move rfl) rfl ?_
            refine rl_nil ?_
            have hbn := leastN_no hmn hxc (by rintro ⟨q1, q2⟩; first | omega | (simp_all; omega))
            exact at_backR (k + 1, mn) ⟨hk2, hm0, hbn⟩ (by dsimp only at *; omega) (by (repeat' (first | exact Sub.nil | refine Sub.cons ?_ ?_)); all_goals (first | rfl | exact lkInt rfl (by omega))) (Sub.cons rfl (Sub.cons rfl (Sub.cons rfl (Sub.cons rfl (Sub.cons rfl Sub.nil))))) (fun _ hq => hq)
      ·
        have g1' := g1
        try simp only [Bool.not_eq_true', Bool.not_eq_false', Bool.not_not, decide_eq_true_eq, decide_eq_false_iff_not, beq_iff_eq, beq_eq_false_iff_ne, bne_iff_ne, bne_eq_false_iff_eq, Bool.and_eq_true, Bool.or_eq_true, Bool.and_eq_false_iff, Bool.or_eq_false_iff, inB] at g1'
        refine rl_skip (gw_not rfl rfl g1) rfl ?_
        refine rl_skip (gw_not rfl rfl g1) rfl ?_
        refine rl_skip (gw_not rfl rfl g1) rfl ?_
        refine rl_skip (gw_undef rfl rfl) rfl ?_
        refine rl_skip (gw_undef rfl rfl) rfl ?_
        refine rl_skip (gw_undef rfl rfl) rfl ?_
        refine rl_skip (gw_undef rfl rfl) rfl ?_
        refine rl_skip (gw_undef rfl rfl) rfl ?_
        refine rl_skip (gw_undef rfl rfl) rfl ?_
        refine rl_skip (gw_undef rfl rfl) rfl ?_
        refine rl_skip (gw_not rfl rfl g1) rfl ?_
        refine rl_val gw_none (ov_pick_f rfl g1 rfl) rfl ?_
        refine rl_nil ?_
        refine at_then ?_
        refine ct_false rfl rfl ?_
        refine ct_skip ?_
        refine at_block ?_
        refine at_then ?_
        refine ct_reg ?_
        refine rl_val gw_none (ov_add rfl rfl (by omega)) rfl ?_
        refine rl_val gw_none (ov_move rfl) rfl ?_
        refine rl_nil ?_
        have hbn := leastN_no hmn hxc (by rintro ⟨q1, q2⟩; first | omega | (simp_all; omega))
        exact at_backR (k + 1, mn) ⟨hk2, hm0, hbn⟩ (by dsimp only at *; omega) (by (repeat' (first | exact Sub.nil | refine Sub.cons ?_ ?_)); all_goals (first | rfl | exact lkInt rfl (by omega))) (Sub.cons rfl (Sub.cons rfl (Sub.cons rfl (Sub.cons rfl (Sub.cons rfl Sub.nil))))) (fun _ hq => hq)
    ·
      have hke : k = cl.length := by omega
      subst hke
      refine ct_exit ?_
      refine at_then_exit ?_
      refine at_then_exit ?_
      refine at_block_hit ?_
      refine at_then ?_
      refine ct_seq ?_
      refine ct_reg ?_
      refine rl_val gw_none (ov_move rfl) rfl ?_
      refine rl_val gw_none (ov_move rfl) rfl ?_
      refine rl_val gw_none (ov_gtr rfl rfl) rfl ?_
      refine rl_val gw_none (ov_assign rfl) rfl ?_
      refine rl_val gw_none (ov_assign rfl) rfl ?_
      refine rl_nil ?_
      refine at_then ?_
      refine ct_ret ?_
      refine at_ret2 Try.results43 (ro_tmp rfl) (ro_tmp rfl) (fun w1 hp => ?_)
      refine ⟨?_, hp.ext0⟩
      first | (rw [beatR_no (show mindB u l xs cl im be gu = false by simpa using h1)]; first | done | rfl) | (rw [beatR_yes hok hmn]; done)

theorem sBeatsLeft_c (u : Int) (l : Int) (xs : List IntA2) (cl : List Int) (im : List Int) (be : Int) (gu : Int) (vxs : Value) (vcl : Value) (vim : Value) (w : World) (zu : In64 u) (zl : In64 l) (hGxs : ∀ y ∈ xs, GIntA2 y) (hsxs : SR w 2 vxs xs.length (flat encIntA2 xs)) (hscl : SR w 1 vcl cl.length (ints cl)) (hsim : SR w 1 vim im.length (ints im)) (zbe : In64 be) (zgu : In64 gu) : Calls Try.prog 42 ([.agg (List.toArray (α := Value) [.int .i64 u, .int .i64 l, vxs, vcl, vim, .int .i64 be, .int .i64 gu])]).toArray w (fun e w' => e = .returned (.tuple #[.int .i64 (beatR (mindB u l xs cl im be gu) cl).1, .bool (beatR (mindB u l xs cl im be gu) cl).2]) ∧ Ext w w') := by
  obtain ⟨axs, capxs, rfl, hcapxs, hmaxxs⟩ := hsxs.slice
  have hlenxs := hsxs.len_le
  obtain ⟨acl, capcl, rfl, hcapcl, hmaxcl⟩ := hscl.slice
  have hlencl := hscl.len_le
  obtain ⟨aim, capim, rfl, hcapim, hmaxim⟩ := hsim.slice
  have hlenim := hsim.len_le
  refine calls_ct Try.func42 Try.ntmps42 rfl rfl ?_
  refine ct_seq ?_
  refine ct_reg ?_
  refine rl_box rfl rfl (fun N1 => ?_)
  refine rl_val gw_none (ov_assign rfl) rfl ?_
  refine rl_val gw_none (ov_assign rfl) rfl ?_
  refine rl_nil ?_
  refine at_then ?_
  refine ct_seq ?_
  refine ct_seq ?_
  refine ct_reg ?_
  first | refine rl_val gw_none (ov_loadall 0 ag56 rfl rfl rfl) rfl ?_ | refine rl_val gw_none (ov_loadp 0 ag56 rfl rfl (vs := [_, _, _, _, _, _, _]) rfl rfl) rfl ?_ | refine rl_val gw_none (ov_loada 0 ag56 rfl rfl rfl (by assumption)) rfl ?_
  refine rl_callv gw_none goes71 rfl (fun w1 hp => l21Good_c u l xs cl im be gu _ _ _ _ zu zl hGxs (hsxs.ext hp.ext0) (hscl.ext hp.ext0) (hsim.ext hp.ext0) zbe zgu) rfl ?_
  refine rl_val gw_none (ov_not rfl) rfl ?_
  refine rl_nil ?_
  refine at_then ?_
  first | refine ct_dec rfl (fun h1 => ?_) (fun h1 => ?_) | refine ct_ndec rfl (fun h1 => ?_) (fun h1 => ?_) | refine ct_eq rfl (fun h1 => ?_) (fun h1 => ?_) | refine ct_ne rfl (fun h1 => ?_) (fun h1 => ?_) | refine ct_not rfl (fun h1 => ?_) (fun h1 => ?_) | refine ct_cond rfl (fun h1 => ?_) (fun h1 => ?_)
  ·
    refine ct_seq ?_
    refine ct_reg ?_
    refine rl_val gw_none (ov_assign rfl) rfl ?_
    refine rl_val gw_none (ov_assign rfl) rfl ?_
    refine rl_nil ?_
    refine at_then ?_
    refine ct_ret ?_
    refine at_then_ret ?_
    refine at_ret2 Try.results42 (ro_tmp rfl) (ro_tmp rfl) (fun w1 hp => ?_)
    refine ⟨?_, hp.ext0⟩
    first | (rw [beatR_no (show mindB u l xs cl im be gu = false by simpa using h1)]; first | done | rfl) | (rw [beatR_yes hok hmn]; done)
  ·
    have hok : mindB u l xs cl im be gu = true := by simpa using h1
    have hmh := mindB_h hok
    have hf := goodB_f hmh.1
    have hnb := numF_all hf
    refine ct_skip ?_
    refine at_then ?_
    refine ct_seq ?_
    refine ct_reg ?_
    refine rl_val gw_none (ov_assign rfl) rfl ?_
    refine rl_nil ?_
    refine at_then ?_
    refine ct_seq ?_
    refine ct_seq ?_
    refine ct_reg ?_
    refine rl_val gw_none (ov_assign rfl) rfl ?_
    refine rl_nil ?_
    refine at_then ?_
    refine ct_block ?_
    refine ct_loopR (ι := Nat × Int) (fun p => [(4, .int .i64 p.2), (5, .int .i64 p.1)]) [(1, _), (2, _), (3, _)] (fun _ => _) (fun p => p.1 ≤ cl.length ∧ 0 ≤ p.2 ∧ p.2 = leastN cl p.1) (fun p => cl.length - p.1) ((0, 0)) (Sub.cons rfl (Sub.cons rfl (Sub.cons rfl Sub.nil))) (fun _ hq => hq) (by (repeat' (first | exact Sub.nil | refine Sub.cons ?_ ?_)); all_goals (first | rfl | exact lkInt rfl (by omega))) ⟨Nat.zero_le _, Int.le_refl _, rfl⟩ (fun p hp0 => ?_)
    obtain ⟨k, mn⟩ := p
    obtain ⟨hk, hm0, hmn⟩ := hp0
    dsimp only at hk hm0 hmn
    try dsimp only
    refine ct_seq ?_
    refine ct_seq ?_
    refine ct_reg ?_
    refine rl_val gw_none (ov_move rfl) rfl ?_
    refine rl_val gw_none (ov_field fo56_1 rfl) rfl ?_
    first | refine rl_val gw_none (ov_load 0 sc42 rfl rfl rfl) rfl ?_ | refine rl_val gw_none (ov_load 0 sc42 rfl rfl (by assumption)) rfl ?_
    refine rl_val gw_none (ov_len Try.underlying42 rfl) rfl ?_
    refine rl_val gw_none (ov_lss rfl rfl) rfl ?_
    refine rl_nil ?_
    refine at_then ?_
    first | refine ct_dec rfl (fun h2 => ?_) (fun h2 => ?_) | refine ct_ndec rfl (fun h2 => ?_) (fun h2 => ?_) | refine ct_eq rfl (fun h2 => ?_) (fun h2 => ?_) | refine ct_ne rfl (fun h2 => ?_) (fun h2 => ?_) | refine ct_not rfl (fun h2 => ?_) (fun h2 => ?_) | refine ct_cond rfl (fun h2 => ?_) (fun h2 => ?_)
    ·
      have hk2 : k < cl.length := by omega
      obtain ⟨bc, oc, rfl, hec⟩ := hscl.int (show k < cl.length by omega)
      obtain ⟨bi, oi, rfl, hei⟩ := hsim.int (show k < im.length by omega)
      have hxc := getLt (show k < cl.length by omega)
      have hxi := getLt (show k < im.length by omega)
      have hmb := mindB_at hok hxi hxc
      generalize cl[k] = c at *
      generalize im[k] = d at *
      have hcc := hec k c hxc
      have hci := hei k d hxi
      refine ct_skip ?_
      refine at_then ?_
      refine ct_seq ?_
      refine ct_block ?_
      refine ct_seq ?_
      refine ct_reg ?_
      refine rl_val gw_none (ov_field fo56_1 rfl) rfl ?_
      first | refine rl_val gw_none (ov_load 0 sc42 rfl rfl rfl) rfl ?_ | refine rl_val gw_none (ov_load 0 sc42 rfl rfl (by assumption)) rfl ?_
      refine rl_val gw_none (ov_move rfl) rfl ?_
      refine rl_val gw_none (ov_ix Try.underlying42 sz3 rfl rfl _ rfl (by omega)) rfl ?_
      first | refine rl_val gw_none (ov_load 0 sc3 rfl rfl rfl) rfl ?_ | refine rl_val gw_none (ov_load 1 sc3 rfl rfl rfl) rfl ?_ | refine rl_val gw_none (ov_load 2 sc3 rfl rfl rfl) rfl ?_ | refine rl_val gw_none (ov_load 3 sc3 rfl rfl rfl) rfl ?_ | refine rl_val gw_none (ov_loadw sc3 rfl (by assumption)) rfl ?_ | refine rl_val gw_none (ov_load 0 sc3 rfl rfl (by assumption)) rfl ?_ | refine rl_val gw_none (ov_load 1 sc3 rfl rfl (by assumption)) rfl ?_ | refine rl_val gw_none (ov_load 2 sc3 rfl rfl (by assumption)) rfl ?_ | refine rl_val gw_none (ov_load 3 sc3 rfl rfl (by assumption)) rfl ?_
      refine rl_val gw_none (ov_gtr rfl rfl) rfl ?_
      refine rl_val gw_none (ov_move rfl) rfl ?_
      refine rl_split (t := 22) rfl (fun g1 => ?_) (fun g1 => ?_)
      ·
        have g1' := g1
        try simp only [Bool.not_eq_true', Bool.not_eq_false', Bool.not_not, decide_eq_true_eq, decide_eq_false_iff_not, beq_iff_eq, beq_eq_false_iff_ne, bne_iff_ne, bne_eq_false_iff_eq, Bool.and_eq_true, Bool.or_eq_true, Bool.and_eq_false_iff, Bool.or_eq_false_iff, inB] at g1'
        refine rl_val (gw_some rfl rfl g1) (ov_move rfl) rfl ?_
        refine rl_val (gw_some rfl rfl g1) (ov_eql rfl rfl) rfl ?_
        refine rl_val (gw_some rfl rfl g1) (ov_move rfl) rfl ?_
        refine rl_split (t := 25) rfl (fun g2 => ?_) (fun g2 => ?_)
        ·
          have g2' := g2
          try simp only [Bool.not_eq_true', Bool.not_eq_false', Bool.not_not, decide_eq_true_eq, decide_eq_false_iff_not, beq_iff_eq, beq_eq_false_iff_ne, bne_iff_ne, bne_eq_false_iff_eq, Bool.and_eq_true, Bool.or_eq_true, Bool.and_eq_false_iff, Bool.or_eq_false_iff, inB] at g2'
          refine rl_skip (gw_not rfl rfl g2) rfl ?_
          refine rl_skip (gw_not rfl rfl g2) rfl ?_
          refine rl_skip (gw_not rfl rfl g2) rfl ?_
          refine rl_skip (gw_not rfl rfl g2) rfl ?_
          refine rl_skip (gw_not rfl rfl g2) rfl ?_
          refine rl_skip (gw_not rfl rfl g2) rfl ?_
          refine rl_skip (gw_not rfl rfl g2) rfl ?_
          refine rl_val (gw_some rfl rfl g1) (ov_pick_t rfl g2 rfl) rfl ?_
          refine rl_val gw_none (ov_pick_t rfl g1 rfl) rfl ?_
          refine rl_nil ?_
          refine at_then ?_
          refine ct_true rfl rfl ?_
          refine ct_reg ?_
          refine rl_val gw_none (ov_field fo56_1 rfl) rfl ?_
          first | refine rl_val gw_none (ov_load 0 sc42 rfl rfl rfl) rfl ?_ | refine rl_val gw_none (ov_load 0 sc42 rfl rfl (by assumption)) rfl ?_
          refine rl_val gw_none (ov_move rfl) rfl ?_
          refine rl_val gw_none (ov_ix Try.underlying42 sz3 rfl rfl _ rfl (by omega)) rfl ?_
          first | refine rl_val gw_none (ov_load 0 sc3 rfl rfl rfl) rfl ?_ | refine rl_val gw_none (ov_load 1 sc3 rfl rfl rfl) rfl ?_ | refine rl_val gw_none (ov_load 2 sc3 rfl rfl rfl) rfl ?_ | refine rl_val gw_none (ov_load 3 sc3 rfl rfl rfl) rfl ?_ | refine rl_val gw_none (ov_loadw sc3 rfl (by assumption)) rfl ?_ | refine rl_val gw_none (ov_load 0 sc3 rfl rfl (by assumption)) rfl ?_ | refine rl_val gw_none (ov_load 1 sc3 rfl rfl (by assumption)) rfl ?_ | refine rl_val gw_none (ov_load 2 sc3 rfl rfl (by assumption)) rfl ?_ | refine rl_val gw_none (ov_load 3 sc3 rfl rfl (by assumption)) rfl ?_
          refine rl_val gw_none (ov_assign rfl) rfl ?_
          refine rl_nil ?_
          refine at_block ?_
          refine at_then ?_
          refine ct_reg ?_
          refine rl_val gw_none (ov_move rfl) rfl ?_
          refine rl_val gw_none (ov_add rfl rfl (by omega)) rfl ?_
          refine rl_val gw_none (ov_assign rfl) rfl ?_
          refine rl_nil ?_
          have hbn := leastN_yes hmn hxc (by first | omega | (simp at *; omega)) (by first | (left; simpa using g2); done | (right; simpa using h3) | (right; simpa using h4) | (simp_all; omega))
          exact at_backR (k + 1, c) ⟨hk2, by dsimp only; omega, hbn⟩ (by dsimp only at *; omega) (by (repeat' (first | exact Sub.nil | refine Sub.cons ?_ ?_)); all_goals (first | rfl | exact lkInt rfl (by omega))) (Sub.cons rfl (Sub.cons rfl (Sub.cons rfl Sub.nil))) (fun _ hq => hq)
        ·
          have g2' := g2
          try simp only [Bool.not_eq_true', Bool.not_eq_false', Bool.not_not, decide_eq_true_eq, decide_eq_false_iff_not, beq_iff_eq, beq_eq_false_iff_ne, bne_iff_ne, bne_eq_false_iff_eq, Bool.and_eq_true, Bool.or_eq_true, Bool.and_eq_false_iff, Bool.or_eq_false_iff, inB] at g2'
          refine rl_val (gw_some rfl rfl g2) (ov_field fo56_1 rfl) rfl ?_
          first | refine rl_val (gw_some rfl rfl g2) (ov_load 0 sc42 rfl rfl rfl) rfl ?_ | refine rl_val (gw_some rfl rfl g2) (ov_load 0 sc42 rfl rfl (by assumption)) rfl ?_
          refine rl_val (gw_some rfl rfl g2) (ov_move rfl) rfl ?_
          refine rl_val (gw_some rfl rfl g2) (ov_ix Try.underlying42 sz3 rfl rfl _ rfl (by omega)) rfl ?_
          first | refine rl_val (gw_some rfl rfl g2) (ov_load 0 sc3 rfl rfl rfl) rfl ?_ | refine rl_val (gw_some rfl rfl g2) (ov_load 1 sc3 rfl rfl rfl) rfl ?_ | refine rl_val (gw_some rfl rfl g2) (ov_load 2 sc3 rfl rfl rfl) rfl ?_ | refine rl_val (gw_some rfl rfl g2) (ov_load 3 sc3 rfl rfl rfl) rfl ?_ | refine rl_val (gw_some rfl rfl g2) (ov_loadw sc3 rfl (by assumption)) rfl ?_ | refine rl_val (gw_some rfl rfl g2) (ov_load 0 sc3 rfl rfl (by assumption)) rfl ?_ | refine rl_val (gw_some rfl rfl g2) (ov_load 1 sc3 rfl rfl (by assumption)) rfl ?_ | refine rl_val (gw_some rfl rfl g2) (ov_load 2 sc3 rfl rfl (by assumption)) rfl ?_ | refine rl_val (gw_some rfl rfl g2) (ov_load 3 sc3 rfl rfl (by assumption)) rfl ?_
          refine rl_val (gw_some rfl rfl g2) (ov_move rfl) rfl ?_
          refine rl_val (gw_some rfl rfl g2) (ov_lss rfl rfl) rfl ?_
          refine rl_val (gw_some rfl rfl g1) (ov_pick_f rfl g2 rfl) rfl ?_
          refine rl_val gw_none (ov_pick_t rfl g1 rfl) rfl ?_
          refine rl_nil ?_
          refine at_then ?_
          first | refine ct_dec rfl (fun h3 => ?_) (fun h3 => ?_) | refine ct_ndec rfl (fun h3 => ?_) (fun h3 => ?_) | refine ct_eq rfl (fun h3 => ?_) (fun h3 => ?_) | refine ct_ne rfl (fun h3 => ?_) (fun h3 => ?_) | refine ct_not rfl (fun h3 => ?_) (fun h3 => ?_) | refine ct_cond rfl (fun h3 => ?_) (fun h3 => ?_)
          ·
            refine ct_reg ?_
            refine rl_val gw_none (ov_field fo56_1 rfl) rfl ?_
            first | refine rl_val gw_none (ov_load 0 sc42 rfl rfl rfl) rfl ?_ | refine rl_val gw_none (ov_load 0 sc42 rfl rfl (by assumption)) rfl ?_
            refine rl_val gw_none (ov_move rfl) rfl ?_
            refine rl_val gw_none (ov_ix Try.underlying42 sz3 rfl rfl _ rfl (by omega)) rfl ?_
            first | refine rl_val gw_none (ov_load 0 sc3 rfl rfl rfl) rfl ?_ | refine rl_val gw_none (ov_load 1 sc3 rfl rfl rfl) rfl ?_ | refine rl_val gw_none (ov_load 2 sc3 rfl rfl rfl) rfl ?_ | refine rl_val gw_none (ov_load 3 sc3 rfl rfl rfl) rfl ?_ | refine rl_val gw_none (ov_loadw sc3 rfl (by assumption)) rfl ?_ | refine rl_val gw_none (ov_load 0 sc3 rfl rfl (by assumption)) rfl ?_ | refine rl_val gw_none (ov_load 1 sc3 rfl rfl (by assumption)) rfl ?_ | refine rl_val gw_none (ov_load 2 sc3 rfl rfl (by assumption)) rfl ?_ | refine rl_val gw_none (ov_load 3 sc3 rfl rfl (by assumption)) rfl ?_
            refine rl_val gw_none (ov_assign rfl) rfl ?_
            refine rl_nil ?_
            refine at_block ?_
            refine at_then ?_
            refine ct_reg ?_
            refine rl_val gw_none (ov_move rfl) rfl ?_
            refine rl_val gw_none (ov_add rfl rfl (by omega)) rfl ?_
            refine rl_val gw_none (ov_assign rfl) rfl ?_
            refine rl_nil ?_
            have hbn := leastN_yes hmn hxc (by first | omega | (simp at *; omega)) (by first | (left; simpa using g2); done | (right; simpa using h3) | (right; simpa using h4) | (simp_all; omega))
            exact at_backR (k + 1, c) ⟨hk2, by dsimp only; omega, hbn⟩ (by dsimp only at *; omega) (by (repeat' (first | exact Sub.nil | refine Sub.cons ?_ ?_)); all_goals (first | rfl | exact lkInt rfl (by omega))) (Sub.cons rfl (Sub.cons rfl (Sub.cons rfl Sub.nil))) (fun _ hq => hq)
          ·
            refine ct_skip ?_
            refine at_block ?_
            refine at_then ?_
            refine ct_reg ?_
            refine rl_val gw_none (ov_move rfl) rfl ?_
            refine rl_val gw_none (ov_add rfl rfl (by omega)) rfl ?_
            refine rl_val gw_none (ov_assign rfl) rfl ?_
            refine rl_nil ?_
            have hbn := leastN_no hmn hxc (by rintro ⟨q1, q2⟩; first | omega | (simp_all; omega))
            exact at_backR (k + 1, mn) ⟨hk2, hm0, hbn⟩ (by dsimp only at *; omega) (by (repeat' (first | exact Sub.nil | refine Sub.cons ?_ ?_)); all_goals (first | rfl | exact lkInt rfl (by omega))) (Sub.cons rfl (Sub.cons rfl (Sub.cons rfl Sub.nil))) (fun _ hq => hq)
      ·
        have g1' := g1
        try simp only [Bool.not_eq_true', Bool.not_eq_false', Bool.not_not, decide_eq_true_eq, decide_eq_false_iff_not, beq_iff_eq, beq_eq_false_iff_ne, bne_iff_ne, bne_eq_false_iff_eq, Bool.and_eq_true, Bool.or_eq_true, Bool.and_eq_false_iff, Bool.or_eq_false_iff, inB] at g1'
        refine rl_skip (gw_not rfl rfl g1) rfl ?_
        refine rl_skip (gw_not rfl rfl g1) rfl ?_
        refine rl_skip (gw_not rfl rfl g1) rfl ?_
        refine rl_skip (gw_undef rfl rfl) rfl ?_
        refine rl_skip (gw_undef rfl rfl) rfl ?_
        refine rl_skip (gw_undef rfl rfl) rfl ?_
        refine rl_skip (gw_undef rfl rfl) rfl ?_
        refine rl_skip (gw_undef rfl rfl) rfl ?_
        refine rl_skip (gw_undef rfl rfl) rfl ?_
        refine rl_skip (gw_undef rfl rfl) rfl ?_
        refine rl_skip (gw_not rfl rfl g1) rfl ?_
        refine rl_val gw_none (ov_pick_f rfl g1 rfl) rfl ?_
        refine rl_nil ?_
        refine at_then ?_
        refine ct_false rfl rfl ?_
        refine ct_skip ?_
        refine at_block ?_
        refine at_then ?_
        refine ct_reg ?_
        refine rl_val gw_none (ov_move rfl) rfl ?_
        refine rl_val gw_none (ov_add rfl rfl (by omega)) rfl ?_
        refine rl_val gw_none (ov_assign rfl) rfl ?_
        refine rl_nil ?_
        have hbn := leastN_no hmn hxc (by rintro ⟨q1, q2⟩; first | omega | (simp_all; omega))
        exact at_backR (k + 1, mn) ⟨hk2, hm0, hbn⟩ (by dsimp only at *; omega) (by (repeat' (first | exact Sub.nil | refine Sub.cons ?_ ?_)); all_goals (first | rfl | exact lkInt rfl (by omega))) (Sub.cons rfl (Sub.cons rfl (Sub.cons rfl Sub.nil))) (fun _ hq => hq)
    ·
      have hke : k = cl.length := by omega
      subst hke
      refine ct_exit ?_
      refine at_then_exit ?_
      refine at_then_exit ?_
      refine at_block_hit ?_
      refine at_then ?_
      refine ct_seq ?_
      refine ct_reg ?_
      refine rl_val gw_none (ov_move rfl) rfl ?_
      refine rl_val gw_none (ov_move rfl) rfl ?_
      refine rl_val gw_none (ov_gtr rfl rfl) rfl ?_
      refine rl_val gw_none (ov_assign rfl) rfl ?_
      refine rl_val gw_none (ov_assign rfl) rfl ?_
      refine rl_nil ?_
      refine at_then ?_
      refine ct_ret ?_
      refine at_ret2 Try.results42 (ro_tmp rfl) (ro_tmp rfl) (fun w1 hp => ?_)
      refine ⟨?_, hp.ext0⟩
      first | (rw [beatR_no (show mindB u l xs cl im be gu = false by simpa using h1)]; first | done | rfl) | (rw [beatR_yes hok hmn]; done)

theorem iMindText_c (u : Int) (l : Int) (xs : List IntA2) (cl : List Int) (im : List Int) (be : Int) (gu : Int) (vxs : Value) (vcl : Value) (vim : Value) (w : World) (zu : In64 u) (zl : In64 l) (hGxs : ∀ y ∈ xs, GIntA2 y) (hsxs : SR w 2 vxs xs.length (flat encIntA2 xs)) (hscl : SR w 1 vcl cl.length (ints cl)) (hsim : SR w 1 vim im.length (ints im)) (zbe : In64 be) (zgu : In64 gu) : Calls Try.prog 47 ([.agg (List.toArray (α := Value) [.int .i64 u, .int .i64 l, vxs, vcl, vim, .int .i64 be, .int .i64 gu])]).toArray w (fun e w' => e = .returned (.tuple #[.string (bs (mindT (mindB u l xs cl im be gu) xs im).1), .bool (mindT (mindB u l xs cl im be gu) xs im).2]) ∧ Ext w w') := by
  obtain ⟨axs, capxs, rfl, hcapxs, hmaxxs⟩ := hsxs.slice
  have hlenxs := hsxs.len_le
  obtain ⟨acl, capcl, rfl, hcapcl, hmaxcl⟩ := hscl.slice
  have hlencl := hscl.len_le
  obtain ⟨aim, capim, rfl, hcapim, hmaxim⟩ := hsim.slice
  have hlenim := hsim.len_le
  refine calls_ct Try.func47 Try.ntmps47 rfl rfl ?_
  refine ct_seq ?_
  refine ct_reg ?_
  refine rl_box rfl rfl (fun N1 => ?_)
  refine rl_val gw_none (ov_assign rfl) rfl ?_
  refine rl_val gw_none (ov_assign rfl) rfl ?_
  refine rl_nil ?_
  refine at_then ?_
  refine ct_seq ?_
  refine ct_seq ?_
  refine ct_reg ?_
  first | refine rl_val gw_none (ov_loadall 0 ag56 rfl rfl rfl) rfl ?_ | refine rl_val gw_none (ov_loadp 0 ag56 rfl rfl (vs := [_, _, _, _, _, _, _]) rfl rfl) rfl ?_ | refine rl_val gw_none (ov_loada 0 ag56 rfl rfl rfl (by assumption)) rfl ?_
  refine rl_callv gw_none goes40 rfl (fun w1 hp => iIsMind_c u l xs cl im be gu _ _ _ _ zu zl hGxs (hsxs.ext hp.ext0) (hscl.ext hp.ext0) (hsim.ext hp.ext0) zbe zgu) rfl ?_
  refine rl_val gw_none (ov_not rfl) rfl ?_
  refine rl_nil ?_
  refine at_then ?_
  first | refine ct_dec rfl (fun h1 => ?_) (fun h1 => ?_) | refine ct_ndec rfl (fun h1 => ?_) (fun h1 => ?_) | refine ct_eq rfl (fun h1 => ?_) (fun h1 => ?_) | refine ct_ne rfl (fun h1 => ?_) (fun h1 => ?_) | refine ct_not rfl (fun h1 => ?_) (fun h1 => ?_) | refine ct_cond rfl (fun h1 => ?_) (fun h1 => ?_)
  ·
    refine ct_seq ?_
    refine ct_reg ?_
    refine rl_val gw_none (ov_assign rfl) rfl ?_
    refine rl_val gw_none (ov_assign rfl) rfl ?_
    refine rl_nil ?_
    refine at_then ?_
    refine ct_ret ?_
    refine at_then_ret ?_
    refine at_ret2 Try.results47 (ro_tmp rfl) (ro_tmp rfl) (fun w1 hp => ?_)
    refine ⟨?_, hp.ext0⟩
    first | (rw [mindT_no (show mindB u l xs cl im be gu = false by simpa using h1)]; first | done | rfl) | (rw [mindT_yes hok]; first | done | rfl)
  ·
    have hok : mindB u l xs cl im be gu = true := by simpa using h1
    have hmh := mindB_h hok
    have hf := goodB_f hmh.1
    have hnb := numF_all hf
    have hil := imgT_len (im := im) (fun j d hj => by obtain ⟨c, hc⟩ : ∃ c, cl[j]? = some c := ⟨_, getLt (show j < cl.length by have := (List.getElem?_eq_some_iff.1 hj).1; omega)⟩; have := mindB_at hok hj hc; omega)
    have hnl := numL_len (n := (numF xs).toNat) (by omega)
    refine ct_skip ?_
    refine at_then ?_
    refine ct_seq ?_
    refine ct_reg ?_
    refine rl_val gw_none (ov_assign rfl) rfl ?_
    refine rl_nil ?_
    refine at_then ?_
    refine ct_seq ?_
    refine ct_seq ?_
    refine ct_reg ?_
    refine rl_val gw_none (ov_field fo56_2 rfl) rfl ?_
    first | refine rl_val gw_none (ov_load 0 sc42 rfl rfl rfl) rfl ?_ | refine rl_val gw_none (ov_load 0 sc42 rfl rfl (by assumption)) rfl ?_
    refine rl_val gw_none (ov_len Try.underlying42 rfl) rfl ?_
    refine rl_val gw_none (ov_move rfl) rfl ?_
    refine rl_nil ?_
    refine at_then ?_
    refine ct_block ?_
    refine ct_loopR (ι := Nat) (fun k => [(4, .string (bs (imgT im k))), (13, .int .i64 k)]) [(1, _), (2, _), (3, _), (11, _), (12, _)] (fun _ => _) (fun k => k ≤ im.length) (fun k => im.length - k) (0) (Sub.cons rfl (Sub.cons rfl (Sub.cons rfl (Sub.cons rfl (Sub.cons rfl Sub.nil))))) (fun _ hq => hq) (by (repeat' (first | exact Sub.nil | refine Sub.cons ?_ ?_)); all_goals (first | rfl | exact lkInt rfl (by omega))) (by first | exact True.intro | omega | (dsimp only; omega) | (dsimp only at *; omega)) (fun k hk => ?_)
    have hkl := hil k
    refine ct_seq ?_
    refine ct_reg ?_
    refine rl_val gw_none (ov_lss rfl rfl) rfl ?_
    refine rl_nil ?_
    refine at_then ?_
    refine ct_seq ?_
    first | refine ct_dec rfl (fun h2 => ?_) (fun h2 => ?_) | refine ct_ndec rfl (fun h2 => ?_) (fun h2 => ?_) | refine ct_eq rfl (fun h2 => ?_) (fun h2 => ?_) | refine ct_ne rfl (fun h2 => ?_) (fun h2 => ?_) | refine ct_not rfl (fun h2 => ?_) (fun h2 => ?_) | refine ct_cond rfl (fun h2 => ?_) (fun h2 => ?_)
    ·
      have hk2 : k < im.length := by omega
      obtain ⟨bi, oi, rfl, hei⟩ := hsim.int hk2
      have hxi := getLt hk2
      obtain ⟨c, hxc⟩ : ∃ c, cl[k]? = some c := ⟨_, getLt (show k < cl.length by omega)⟩
      have hmb := mindB_at hok hxi hxc
      generalize im[k] = d at *
      have hci := hei k d hxi
      have hdl := numL_len (n := d.toNat) (by omega)
      refine ct_skip ?_
      refine at_then ?_
      refine ct_seq ?_
      refine ct_block ?_
      refine ct_seq ?_
      refine ct_reg ?_
      refine rl_val gw_none (ov_ix Try.underlying42 sz3 rfl rfl _ rfl (by omega)) rfl ?_
      first | refine rl_val gw_none (ov_load 0 sc3 rfl rfl rfl) rfl ?_ | refine rl_val gw_none (ov_load 1 sc3 rfl rfl rfl) rfl ?_ | refine rl_val gw_none (ov_load 2 sc3 rfl rfl rfl) rfl ?_ | refine rl_val gw_none (ov_load 3 sc3 rfl rfl rfl) rfl ?_ | refine rl_val gw_none (ov_loadw sc3 rfl (by assumption)) rfl ?_ | refine rl_val gw_none (ov_load 0 sc3 rfl rfl (by assumption)) rfl ?_ | refine rl_val gw_none (ov_load 1 sc3 rfl rfl (by assumption)) rfl ?_ | refine rl_val gw_none (ov_load 2 sc3 rfl rfl (by assumption)) rfl ?_ | refine rl_val gw_none (ov_load 3 sc3 rfl rfl (by assumption)) rfl ?_
      refine rl_val gw_none (ov_assign rfl) rfl ?_
      refine rl_nil ?_
      refine at_then ?_
      refine ct_seq ?_
      refine ct_reg ?_
      refine rl_val gw_none (ov_move rfl) rfl ?_
      refine rl_val gw_none (ov_lss rfl rfl) rfl ?_
      refine rl_nil ?_
      refine at_then ?_
      first | refine ct_dec rfl (fun h3 => ?_) (fun h3 => ?_) | refine ct_ndec rfl (fun h3 => ?_) (fun h3 => ?_) | refine ct_eq rfl (fun h3 => ?_) (fun h3 => ?_) | refine ct_ne rfl (fun h3 => ?_) (fun h3 => ?_) | refine ct_not rfl (fun h3 => ?_) (fun h3 => ?_) | refine ct_cond rfl (fun h3 => ?_) (fun h3 => ?_)
      ·
        refine ct_reg ?_
        refine rl_val gw_none (ov_move rfl) rfl ?_
        refine rl_val gw_none (ov_sadd rfl rfl (by first | omega | (simp; omega))) rfl ?_
        refine rl_val gw_none (ov_assign rfl) rfl ?_
        refine rl_nil ?_
        refine at_block ?_
        refine at_then ?_
        refine ct_reg ?_
        refine rl_val gw_none (ov_add rfl rfl (by omega)) rfl ?_
        refine rl_val gw_none (ov_move rfl) rfl ?_
        refine rl_nil ?_
        have hts := imgT_neg hxi (by omega)
        exact at_backR (k + 1) (by first | exact True.intro | omega | (dsimp only; omega) | (dsimp only at *; omega)) (by first | exact True.intro | omega | (dsimp only; omega) | (dsimp only at *; omega)) (by rw [hts]; (repeat' (first | exact Sub.nil | refine Sub.cons ?_ ?_)); all_goals (first | rfl | exact lkInt rfl (by omega))) (Sub.cons rfl (Sub.cons rfl (Sub.cons rfl (Sub.cons rfl (Sub.cons rfl Sub.nil))))) (fun _ hq => hq)
      ·
        refine ct_reg ?_
        refine rl_val gw_none (ov_move rfl) rfl ?_
        refine rl_val gw_none (ov_move rfl) rfl ?_
        refine rl_callv gw_none goes67 rfl (fun w1 hp => text_c d.toNat _ _ (by omega) (by omega)) rfl ?_
        refine rl_val gw_none (ov_sadd rfl rfl (by first | omega | (simp; omega))) rfl ?_
        refine rl_val gw_none (ov_assign rfl) rfl ?_
        refine rl_nil ?_
        refine at_block ?_
        refine at_then ?_
        refine ct_reg ?_
        refine rl_val gw_none (ov_add rfl rfl (by omega)) rfl ?_
        refine rl_val gw_none (ov_move rfl) rfl ?_
        refine rl_nil ?_
        have hts := imgT_pos hxi (by omega)
        exact at_backR (k + 1) (by first | exact True.intro | omega | (dsimp only; omega) | (dsimp only at *; omega)) (by first | exact True.intro | omega | (dsimp only; omega) | (dsimp only at *; omega)) (by rw [hts]; (repeat' (first | exact Sub.nil | refine Sub.cons ?_ ?_)); all_goals (first | rfl | exact lkInt rfl (by omega))) (Sub.cons rfl (Sub.cons rfl (Sub.cons rfl (Sub.cons rfl (Sub.cons rfl Sub.nil))))) (fun _ hq => hq)
    ·
      have hke : k = im.length := by omega
      subst hke
      refine ct_exit ?_
      refine at_then_exit ?_
      refine at_then_exit ?_
      refine at_block_hit ?_
      refine at_then ?_
      refine ct_seq ?_
      refine ct_reg ?_
      refine rl_val gw_none (ov_move rfl) rfl ?_
      refine rl_val gw_none (ov_sadd rfl rfl (by first | omega | (simp; omega))) rfl ?_
      refine rl_val gw_none (ov_field fo56_0 rfl) rfl ?_
      first | refine rl_val gw_none (ov_loadall 0 ag54 rfl rfl rfl) rfl ?_ | refine rl_val gw_none (ov_loadp 0 ag54 rfl rfl (vs := [_, _, _]) rfl rfl) rfl ?_ | refine rl_val gw_none (ov_loada 0 ag54 rfl rfl rfl (by assumption)) rfl ?_
      refine rl_callv gw_none goes79 rfl (fun w1 hp => number_c u l xs _ _ zu zl hGxs (hsxs.ext hp.ext0) hf) rfl ?_
      refine rl_callv gw_none goes67 rfl (fun w1 hp => text_c (numF xs).toNat _ _ (by omega) (by omega)) rfl ?_
      refine rl_val gw_none (ov_sadd rfl rfl (by first | omega | (simp; omega))) rfl ?_
      refine rl_val gw_none (ov_assign rfl) rfl ?_
      refine rl_val gw_none (ov_assign rfl) rfl ?_
      refine rl_nil ?_
      refine at_then ?_
      refine ct_ret ?_
      refine at_ret2 Try.results47 (ro_tmp rfl) (ro_tmp rfl) (fun w1 hp => ?_)
      refine ⟨?_, hp.ext0⟩
      first | (rw [mindT_no (show mindB u l xs cl im be gu = false by simpa using h1)]; first | done | rfl) | (rw [mindT_yes hok]; first | done | rfl)

theorem sMindText_c (u : Int) (l : Int) (xs : List IntA2) (cl : List Int) (im : List Int) (be : Int) (gu : Int) (vxs : Value) (vcl : Value) (vim : Value) (w : World) (zu : In64 u) (zl : In64 l) (hGxs : ∀ y ∈ xs, GIntA2 y) (hsxs : SR w 2 vxs xs.length (flat encIntA2 xs)) (hscl : SR w 1 vcl cl.length (ints cl)) (hsim : SR w 1 vim im.length (ints im)) (zbe : In64 be) (zgu : In64 gu) : Calls Try.prog 46 ([.agg (List.toArray (α := Value) [.int .i64 u, .int .i64 l, vxs, vcl, vim, .int .i64 be, .int .i64 gu])]).toArray w (fun e w' => e = .returned (.tuple #[.string (bs (mindT (mindB u l xs cl im be gu) xs im).1), .bool (mindT (mindB u l xs cl im be gu) xs im).2]) ∧ Ext w w') := by
  obtain ⟨axs, capxs, rfl, hcapxs, hmaxxs⟩ := hsxs.slice
  have hlenxs := hsxs.len_le
  obtain ⟨acl, capcl, rfl, hcapcl, hmaxcl⟩ := hscl.slice
  have hlencl := hscl.len_le
  obtain ⟨aim, capim, rfl, hcapim, hmaxim⟩ := hsim.slice
  have hlenim := hsim.len_le
  refine calls_ct Try.func46 Try.ntmps46 rfl rfl ?_
  refine ct_seq ?_
  refine ct_reg ?_
  refine rl_box rfl rfl (fun N1 => ?_)
  refine rl_val gw_none (ov_assign rfl) rfl ?_
  refine rl_val gw_none (ov_assign rfl) rfl ?_
  refine rl_nil ?_
  refine at_then ?_
  refine ct_seq ?_
  refine ct_seq ?_
  refine ct_reg ?_
  first | refine rl_val gw_none (ov_loadall 0 ag56 rfl rfl rfl) rfl ?_ | refine rl_val gw_none (ov_loadp 0 ag56 rfl rfl (vs := [_, _, _, _, _, _, _]) rfl rfl) rfl ?_ | refine rl_val gw_none (ov_loada 0 ag56 rfl rfl rfl (by assumption)) rfl ?_
  refine rl_callv gw_none goes71 rfl (fun w1 hp => l21Good_c u l xs cl im be gu _ _ _ _ zu zl hGxs (hsxs.ext hp.ext0) (hscl.ext hp.ext0) (hsim.ext hp.ext0) zbe zgu) rfl ?_
  refine rl_val gw_none (ov_not rfl) rfl ?_
  refine rl_nil ?_
  refine at_then ?_
  first | refine ct_dec rfl (fun h1 => ?_) (fun h1 => ?_) | refine ct_ndec rfl (fun h1 => ?_) (fun h1 => ?_) | refine ct_eq rfl (fun h1 => ?_) (fun h1 => ?_) | refine ct_ne rfl (fun h1 => ?_) (fun h1 => ?_) | refine ct_not rfl (fun h1 => ?_) (fun h1 => ?_) | refine ct_cond rfl (fun h1 => ?_) (fun h1 => ?_)
  ·
    refine ct_seq ?_
    refine ct_reg ?_
    refine rl_val gw_none (ov_assign rfl) rfl ?_
    refine rl_val gw_none (ov_assign rfl) rfl ?_
    refine rl_nil ?_
    refine at_then ?_
    refine ct_ret ?_
    refine at_then_ret ?_
    refine at_ret2 Try.results46 (ro_tmp rfl) (ro_tmp rfl) (fun w1 hp => ?_)
    refine ⟨?_, hp.ext0⟩
    first | (rw [mindT_no (show mindB u l xs cl im be gu = false by simpa using h1)]; first | done | rfl) | (rw [mindT_yes hok]; first | done | rfl)
  ·
    have hok : mindB u l xs cl im be gu = true := by simpa using h1
    have hmh := mindB_h hok
    have hf := goodB_f hmh.1
    have hnb := numF_all hf
    have hil := imgT_len (im := im) (fun j d hj => by obtain ⟨c, hc⟩ : ∃ c, cl[j]? = some c := ⟨_, getLt (show j < cl.length by have := (List.getElem?_eq_some_iff.1 hj).1; omega)⟩; have := mindB_at hok hj hc; omega)
    have hnl := numL_len (n := (numF xs).toNat) (by omega)
    refine ct_skip ?_
    refine at_then ?_
    refine ct_seq ?_
    refine ct_reg ?_
    refine rl_val gw_none (ov_assign rfl) rfl ?_
    refine rl_nil ?_
    refine at_then ?_
    refine ct_seq ?_
    refine ct_seq ?_
    refine ct_reg ?_
    refine rl_val gw_none (ov_assign rfl) rfl ?_
    refine rl_nil ?_
    refine at_then ?_
    refine ct_block ?_
    refine ct_loopR (ι := Nat) (fun k => [(4, .string (bs (imgT im k))), (5, .int .i64 k)]) [(1, _), (2, _), (3, _)] (fun _ => _) (fun k => k ≤ im.length) (fun k => im.length - k) (0) (Sub.cons rfl (Sub.cons rfl (Sub.cons rfl Sub.nil))) (fun _ hq => hq) (by (repeat' (first | exact Sub.nil | refine Sub.cons ?_ ?_)); all_goals (first | rfl | exact lkInt rfl (by omega))) (by first | exact True.intro | omega | (dsimp only; omega) | (dsimp only at *; omega)) (fun k hk => ?_)
    have hkl := hil k
    refine ct_seq ?_
    refine ct_seq ?_
    refine ct_reg ?_
    refine rl_val gw_none (ov_move rfl) rfl ?_
    refine rl_val gw_none (ov_field fo56_2 rfl) rfl ?_
    first | refine rl_val gw_none (ov_load 0 sc42 rfl rfl rfl) rfl ?_ | refine rl_val gw_none (ov_load 0 sc42 rfl rfl (by assumption)) rfl ?_
    refine rl_val gw_none (ov_len Try.underlying42 rfl) rfl ?_
    refine rl_val gw_none (ov_lss rfl rfl) rfl ?_
    refine rl_nil ?_
    refine at_then ?_
    first | refine ct_dec rfl (fun h2 => ?_) (fun h2 => ?_) | refine ct_ndec rfl (fun h2 => ?_) (fun h2 => ?_) | refine ct_eq rfl (fun h2 => ?_) (fun h2 => ?_) | refine ct_ne rfl (fun h2 => ?_) (fun h2 => ?_) | refine ct_not rfl (fun h2 => ?_) (fun h2 => ?_) | refine ct_cond rfl (fun h2 => ?_) (fun h2 => ?_)
    ·
      have hk2 : k < im.length := by omega
      obtain ⟨bi, oi, rfl, hei⟩ := hsim.int hk2
      have hxi := getLt hk2
      obtain ⟨c, hxc⟩ : ∃ c, cl[k]? = some c := ⟨_, getLt (show k < cl.length by omega)⟩
      have hmb := mindB_at hok hxi hxc
      generalize im[k] = d at *
      have hci := hei k d hxi
      have hdl := numL_len (n := d.toNat) (by omega)
      refine ct_skip ?_
      refine at_then ?_
      refine ct_seq ?_
      refine ct_block ?_
      refine ct_seq ?_
      refine ct_reg ?_
      refine rl_val gw_none (ov_field fo56_2 rfl) rfl ?_
      first | refine rl_val gw_none (ov_load 0 sc42 rfl rfl rfl) rfl ?_ | refine rl_val gw_none (ov_load 0 sc42 rfl rfl (by assumption)) rfl ?_
      refine rl_val gw_none (ov_move rfl) rfl ?_
      refine rl_val gw_none (ov_ix Try.underlying42 sz3 rfl rfl _ rfl (by omega)) rfl ?_
      first | refine rl_val gw_none (ov_load 0 sc3 rfl rfl rfl) rfl ?_ | refine rl_val gw_none (ov_load 1 sc3 rfl rfl rfl) rfl ?_ | refine rl_val gw_none (ov_load 2 sc3 rfl rfl rfl) rfl ?_ | refine rl_val gw_none (ov_load 3 sc3 rfl rfl rfl) rfl ?_ | refine rl_val gw_none (ov_loadw sc3 rfl (by assumption)) rfl ?_ | refine rl_val gw_none (ov_load 0 sc3 rfl rfl (by assumption)) rfl ?_ | refine rl_val gw_none (ov_load 1 sc3 rfl rfl (by assumption)) rfl ?_ | refine rl_val gw_none (ov_load 2 sc3 rfl rfl (by assumption)) rfl ?_ | refine rl_val gw_none (ov_load 3 sc3 rfl rfl (by assumption)) rfl ?_
      refine rl_val gw_none (ov_lss rfl rfl) rfl ?_
      refine rl_nil ?_
      refine at_then ?_
      first | refine ct_dec rfl (fun h3 => ?_) (fun h3 => ?_) | refine ct_ndec rfl (fun h3 => ?_) (fun h3 => ?_) | refine ct_eq rfl (fun h3 => ?_) (fun h3 => ?_) | refine ct_ne rfl (fun h3 => ?_) (fun h3 => ?_) | refine ct_not rfl (fun h3 => ?_) (fun h3 => ?_) | refine ct_cond rfl (fun h3 => ?_) (fun h3 => ?_)
      ·
        refine ct_reg ?_
        refine rl_val gw_none (ov_move rfl) rfl ?_
        refine rl_val gw_none (ov_sadd rfl rfl (by first | omega | (simp; omega))) rfl ?_
        refine rl_val gw_none (ov_assign rfl) rfl ?_
        refine rl_nil ?_
        refine at_block ?_
        refine at_then ?_
        refine ct_reg ?_
        refine rl_val gw_none (ov_move rfl) rfl ?_
        refine rl_val gw_none (ov_add rfl rfl (by omega)) rfl ?_
        refine rl_val gw_none (ov_assign rfl) rfl ?_
        refine rl_nil ?_
        have hts := imgT_neg hxi (by omega)
        exact at_backR (k + 1) (by first | exact True.intro | omega | (dsimp only; omega) | (dsimp only at *; omega)) (by first | exact True.intro | omega | (dsimp only; omega) | (dsimp only at *; omega)) (by rw [hts]; (repeat' (first | exact Sub.nil | refine Sub.cons ?_ ?_)); all_goals (first | rfl | exact lkInt rfl (by omega))) (Sub.cons rfl (Sub.cons rfl (Sub.cons rfl Sub.nil))) (fun _ hq => hq)
      ·
        refine ct_reg ?_
        refine rl_val gw_none (ov_move rfl) rfl ?_
        refine rl_val gw_none (ov_field fo56_2 rfl) rfl ?_
        first | refine rl_val gw_none (ov_load 0 sc42 rfl rfl rfl) rfl ?_ | refine rl_val gw_none (ov_load 0 sc42 rfl rfl (by assumption)) rfl ?_
        refine rl_val gw_none (ov_move rfl) rfl ?_
        refine rl_val gw_none (ov_ix Try.underlying42 sz3 rfl rfl _ rfl (by omega)) rfl ?_
        first | refine rl_val gw_none (ov_load 0 sc3 rfl rfl rfl) rfl ?_ | refine rl_val gw_none (ov_load 1 sc3 rfl rfl rfl) rfl ?_ | refine rl_val gw_none (ov_load 2 sc3 rfl rfl rfl) rfl ?_ | refine rl_val gw_none (ov_load 3 sc3 rfl rfl rfl) rfl ?_ | refine rl_val gw_none (ov_loadw sc3 rfl (by assumption)) rfl ?_ | refine rl_val gw_none (ov_load 0 sc3 rfl rfl (by assumption)) rfl ?_ | refine rl_val gw_none (ov_load 1 sc3 rfl rfl (by assumption)) rfl ?_ | refine rl_val gw_none (ov_load 2 sc3 rfl rfl (by assumption)) rfl ?_ | refine rl_val gw_none (ov_load 3 sc3 rfl rfl (by assumption)) rfl ?_
        refine rl_callv gw_none goes77 rfl (fun w1 hp => l1Num_c d.toNat _ _ (by omega) (by omega)) rfl ?_
        refine rl_val gw_none (ov_sadd rfl rfl (by first | omega | (simp; omega))) rfl ?_
        refine rl_val gw_none (ov_assign rfl) rfl ?_
        refine rl_nil ?_
        refine at_block ?_
        refine at_then ?_
        refine ct_reg ?_
        refine rl_val gw_none (ov_move rfl) rfl ?_
        refine rl_val gw_none (ov_add rfl rfl (by omega)) rfl ?_
        refine rl_val gw_none (ov_assign rfl) rfl ?_
        refine rl_nil ?_
        have hts := imgT_pos hxi (by omega)
        exact at_backR (k + 1) (by first | exact True.intro | omega | (dsimp only; omega) | (dsimp only at *; omega)) (by first | exact True.intro | omega | (dsimp only; omega) | (dsimp only at *; omega)) (by rw [hts]; (repeat' (first | exact Sub.nil | refine Sub.cons ?_ ?_)); all_goals (first | rfl | exact lkInt rfl (by omega))) (Sub.cons rfl (Sub.cons rfl (Sub.cons rfl Sub.nil))) (fun _ hq => hq)
    ·
      have hke : k = im.length := by omega
      subst hke
      refine ct_exit ?_
      refine at_then_exit ?_
      refine at_then_exit ?_
      refine at_block_hit ?_
      refine at_then ?_
      refine ct_seq ?_
      refine ct_reg ?_
      refine rl_val gw_none (ov_move rfl) rfl ?_
      refine rl_val gw_none (ov_sadd rfl rfl (by first | omega | (simp; omega))) rfl ?_
      refine rl_val gw_none (ov_field fo56_0 rfl) rfl ?_
      first | refine rl_val gw_none (ov_loadall 0 ag54 rfl rfl rfl) rfl ?_ | refine rl_val gw_none (ov_loadp 0 ag54 rfl rfl (vs := [_, _, _]) rfl rfl) rfl ?_ | refine rl_val gw_none (ov_loada 0 ag54 rfl rfl rfl (by assumption)) rfl ?_
      refine rl_callv gw_none goes78 rfl (fun w1 hp => l2Number_c u l xs _ _ zu zl hGxs (hsxs.ext hp.ext0) hf) rfl ?_
      refine rl_callv gw_none goes77 rfl (fun w1 hp => l1Num_c (numF xs).toNat _ _ (by omega) (by omega)) rfl ?_
      refine rl_val gw_none (ov_sadd rfl rfl (by first | omega | (simp; omega))) rfl ?_
      refine rl_val gw_none (ov_assign rfl) rfl ?_
      refine rl_val gw_none (ov_assign rfl) rfl ?_
      refine rl_nil ?_
      refine at_then ?_
      refine ct_ret ?_
      refine at_ret2 Try.results46 (ro_tmp rfl) (ro_tmp rfl) (fun w1 hp => ?_)
      refine ⟨?_, hp.ext0⟩
      first | (rw [mindT_no (show mindB u l xs cl im be gu = false by simpa using h1)]; first | done | rfl) | (rw [mindT_yes hok]; first | done | rfl)
end Go.Proofs.Ytacaoicpmhdioaa
