import Derived.Test.YtjhlhkglpecdbaaZl
import Derived.KernelRfl
set_option linter.unusedVariables false
set_option linter.unusedSimpArgs false
namespace Go.Proofs.Ytjhlhkglpecdbaa
open Go Go.RowKit K
theorem reachQ_all : ∀ d, ReachQ d
  | 0 => fun u l xs vxs acc bo cap pad D w h0 hsl zu zl hG hsd at_ i m hi hf h2 hm hob hd => reached_0 u l xs vxs acc bo cap pad D w h0 hsl zu zl hG hsd at_ i m hi hf h2 hm hob (by omega)
  | d + 1 => fun u l xs vxs acc bo cap pad D w h0 hsl zu zl hG hsd at_ i m hi hf h2 hm hob hd => reached_s d (reachQ_all d) u l xs vxs acc bo cap pad D w h0 hsl zu zl hG hsd at_ i m hi hf h2 hm hob hd

theorem iReachedIn_c (u : Int) (l : Int) (xs : List IntA2) (mv : Int) (vxs : Value) (w : World) (zu : In64 u) (zl : In64 l) (hGxs : ∀ y ∈ xs, GIntA2 y) (hsxs : SR w 2 vxs xs.length (flat encIntA2 xs)) (zmv : In64 mv) : Calls Try.prog 7 ([.agg (List.toArray (α := Value) [.int .i64 u, .int .i64 l, vxs]), .int .i64 mv]).toArray w (fun e w' => RetSl 3 1 (ints (rchL u l xs mv)) ((rchL u l xs mv).length) (fun s => .tuple #[s, .bool (rchB u l xs mv)]) w e w') := by
  obtain ⟨axs, capxs, rfl, hcapxs, hmaxxs⟩ := hsxs.slice
  have hlenxs := hsxs.len_le
  refine calls_ct Try.func7 Try.ntmps7 rfl rfl ?_
  refine ct_seq ?_
  refine ct_reg ?_
  refine rl_box rfl rfl (fun N1 => ?_)
  refine rl_val gw_none (ov_assign rfl) rfl ?_
  refine rl_val gw_none (ov_assign rfl) rfl ?_
  refine rl_nil ?_
  refine at_then ?_
  refine ct_seq ?_
  refine ct_seq ?_
  refine ct_reg ?_
  first | refine rl_val gw_none (ov_loadall 0 ag29 rfl rfl rfl) rfl ?_ | refine rl_val gw_none (ov_loadp 0 ag29 rfl rfl (vs := [_, _, _]) rfl rfl) rfl ?_ | refine rl_val gw_none (ov_loada 0 ag29 rfl rfl rfl (by assumption)) rfl ?_
  refine rl_callv gw_none goes18 rfl (fun w1 hp => iIsFrame_c u l xs _ _ zu zl hGxs (hsxs.ext hp.ext0)) rfl ?_
  refine rl_val gw_none (ov_not rfl) rfl ?_
  refine rl_val gw_none (ov_move rfl) rfl ?_
  refine rl_split (t := 9) rfl (fun g1 => ?_) (fun g1 => ?_)
  ·
    have g1' := g1
    try simp only [Bool.not_eq_true', Bool.not_eq_false', Bool.not_not, decide_eq_true_eq, decide_eq_false_iff_not, beq_iff_eq, beq_eq_false_iff_ne, bne_iff_ne, bne_eq_false_iff_eq, Bool.and_eq_true, Bool.or_eq_true, Bool.and_eq_false_iff, Bool.or_eq_false_iff, inB] at g1'
    refine rl_skip (gw_not rfl rfl g1) rfl ?_
    refine rl_skip (gw_not rfl rfl g1) rfl ?_
    refine rl_skip (gw_not rfl rfl g1) rfl ?_
    refine rl_skip (gw_not rfl rfl g1) rfl ?_
    refine rl_val gw_none (ov_pick_t rfl g1 rfl) rfl ?_
    refine rl_val gw_none (ov_move rfl) rfl ?_
    refine rl_skip (gw_not rfl rfl rfl) rfl ?_
    refine rl_skip (gw_not rfl rfl rfl) rfl ?_
    refine rl_skip (gw_not rfl rfl rfl) rfl ?_
    refine rl_val gw_none (ov_pick_t rfl rfl rfl) rfl ?_
    refine rl_nil ?_
    refine at_then ?_
    refine ct_true rfl rfl ?_
    refine ct_seq ?_
    refine ct_reg ?_
    refine rl_val gw_none (ov_assign rfl) rfl ?_
    refine rl_val gw_none (ov_assign rfl) rfl ?_
    refine rl_nil ?_
    refine at_then ?_
    refine ct_ret ?_
    refine at_then_ret ?_
    refine at_ret2 Try.results7 (ro_tmp rfl) (ro_tmp rfl) (fun w1 hp => ?_)
    first | (rw [rchL_yes hB, ← reach_same, hB]; exact RetSl.own 999 hp rfl hrs) | (have hb : rchB u l xs mv = false := (by unfold rchB; first | (simp_all; done) | (simp_all; omega)); rw [rchL_no hb, hb]; first | exact RetSl.lit 0 hp rfl rfl (by decide) | exact RetSl.nil hp.ext0)
  ·
    have hf : frameB u l xs = true := by simpa using g1
    have h8 := (frameB_ul hf).2.2.2
    have hl1 := (frameB_ul hf).2.2.1
    have hnb := numF_all hf
    refine rl_val (gw_some rfl rfl g1) (ov_field fo29_2 rfl) rfl ?_
    first | refine rl_val (gw_some rfl rfl g1) (ov_load 0 sc22 rfl rfl rfl) rfl ?_ | refine rl_val (gw_some rfl rfl g1) (ov_load 0 sc22 rfl rfl (by assumption)) rfl ?_
    refine rl_val (gw_some rfl rfl g1) (ov_len Try.underlying22 rfl) rfl ?_
    refine rl_val (gw_some rfl rfl g1) (ov_gtr rfl rfl) rfl ?_
    refine rl_val gw_none (ov_pick_f rfl g1 rfl) rfl ?_
    refine rl_val gw_none (ov_move rfl) rfl ?_
    refine rl_split (t := 15) rfl (fun g2 => ?_) (fun g2 => ?_)
    ·
      have g2' := g2
      try simp only [Bool.not_eq_true', Bool.not_eq_false', Bool.not_not, decide_eq_true_eq, decide_eq_false_iff_not, beq_iff_eq, beq_eq_false_iff_ne, bne_iff_ne, bne_eq_false_iff_eq, Bool.and_eq_true, Bool.or_eq_true, Bool.and_eq_false_iff, Bool.or_eq_false_iff, inB] at g2'
      refine rl_skip (gw_not rfl rfl g2) rfl ?_
      refine rl_skip (gw_not rfl rfl g2) rfl ?_
      refine rl_skip (gw_not rfl rfl g2) rfl ?_
      refine rl_val gw_none (ov_pick_t rfl g2 rfl) rfl ?_
      refine rl_nil ?_
      refine at_then ?_
      refine ct_true rfl rfl ?_
      refine ct_seq ?_
      refine ct_reg ?_
      refine rl_val gw_none (ov_assign rfl) rfl ?_
      refine rl_val gw_none (ov_assign rfl) rfl ?_
      refine rl_nil ?_
      refine at_then ?_
      refine ct_ret ?_
      refine at_then_ret ?_
      refine at_ret2 Try.results7 (ro_tmp rfl) (ro_tmp rfl) (fun w1 hp => ?_)
      first | (rw [rchL_yes hB, ← reach_same, hB]; exact RetSl.own 999 hp rfl hrs) | (have hb : rchB u l xs mv = false := (by unfold rchB; first | (simp_all; done) | (simp_all; omega)); rw [rchL_no hb, hb]; first | exact RetSl.lit 0 hp rfl rfl (by decide) | exact RetSl.nil hp.ext0)
    ·
      have g2' := g2
      try simp only [Bool.not_eq_true', Bool.not_eq_false', Bool.not_not, decide_eq_true_eq, decide_eq_false_iff_not, beq_iff_eq, beq_eq_false_iff_ne, bne_iff_ne, bne_eq_false_iff_eq, Bool.and_eq_true, Bool.or_eq_true, Bool.and_eq_false_iff, Bool.or_eq_false_iff, inB] at g2'
      refine rl_val (gw_some rfl rfl g2) (ov_move rfl) rfl ?_
      refine rl_callv (gw_some rfl rfl g2) goes19 rfl (fun w1 hp => within_c _ _ _ _) rfl ?_
      refine rl_val (gw_some rfl rfl g2) (ov_not rfl) rfl ?_
      refine rl_val gw_none (ov_pick_f rfl g2 rfl) rfl ?_
      refine rl_nil ?_
      refine at_then ?_
      first | refine ct_dec rfl (fun h1 => ?_) (fun h1 => ?_) | refine ct_ndec rfl (fun h1 => ?_) (fun h1 => ?_) | refine ct_eq rfl (fun h1 => ?_) (fun h1 => ?_) | refine ct_ne rfl (fun h1 => ?_) (fun h1 => ?_) | refine ct_not rfl (fun h1 => ?_) (fun h1 => ?_) | refine ct_cond rfl (fun h1 => ?_) (fun h1 => ?_)
      ·
        refine ct_seq ?_
        refine ct_reg ?_
        refine rl_val gw_none (ov_assign rfl) rfl ?_
        refine rl_val gw_none (ov_assign rfl) rfl ?_
        refine rl_nil ?_
        refine at_then ?_
        refine ct_ret ?_
        refine at_then_ret ?_
        refine at_ret2 Try.results7 (ro_tmp rfl) (ro_tmp rfl) (fun w1 hp => ?_)
        first | (rw [rchL_yes hB, ← reach_same, hB]; exact RetSl.own 999 hp rfl hrs) | (have hb : rchB u l xs mv = false := (by unfold rchB; first | (simp_all; done) | (simp_all; omega)); rw [rchL_no hb, hb]; first | exact RetSl.lit 0 hp rfl rfl (by decide) | exact RetSl.nil hp.ext0)
      ·
        have hx2 : xs.length ≤ 2 := by simp at g2; omega
        have hmb : inB mv 0 4 = true := by simpa using h1
        have hmr := hmb
        simp only [inB, Bool.and_eq_true, decide_eq_true_eq] at hmr
        have hB : rchB u l xs mv = true := by unfold rchB; rw [hf, hmb, decide_eq_true hx2]; rfl
        refine ct_skip ?_
        refine at_then ?_
        refine ct_seq ?_
        refine ct_reg ?_
        first | refine rl_val gw_none (ov_loadall 0 ag29 rfl rfl rfl) rfl ?_ | refine rl_val gw_none (ov_loadp 0 ag29 rfl rfl (vs := [_, _, _]) rfl rfl) rfl ?_ | refine rl_val gw_none (ov_loada 0 ag29 rfl rfl rfl (by assumption)) rfl ?_
        refine rl_val gw_none (ov_move rfl) rfl ?_
        refine rl_calle (ι := Option Nat × Nat × List Value) (fun i => sv i.1 (reachI u l (2 * xs.length) xs 0 mv []).length i.2.1) (fun i => [(i.1, 3, ints (reachI u l (2 * xs.length) xs 0 mv []) ++ i.2.2)]) (fun i => Sl 1 i.1 (reachI u l (2 * xs.length) xs 0 mv []).length i.2.1 (ints (reachI u l (2 * xs.length) xs 0 mv [])) i.2.2) goes20 rfl (fun w1 hp => reachQ_all (2 * xs.length) u l xs _ [] none 0 [] [] _ ((Hp.refl _).nil 3) (Sl.nil0 _) zu zl hGxs (SRD.of (hsxs.ext hp.ext0)) 0 _ mv rfl hf hx2 (by omega) ⟨List.Pairwise.nil, fun x hx => by cases hx⟩ (by omega)) rfl (fun irs hrs => ?_)
        refine rl_val gw_none (ov_assign rfl) rfl ?_
        refine rl_val gw_none (ov_assign rfl) rfl ?_
        refine rl_nil ?_
        refine at_then ?_
        refine ct_ret ?_
        refine at_ret2 Try.results7 (ro_tmp rfl) (ro_tmp rfl) (fun w1 hp => ?_)
        first | (rw [rchL_yes hB, ← reach_same, hB]; exact RetSl.own 0 hp rfl hrs) | (have hb : rchB u l xs mv = false := (by unfold rchB; first | (simp_all; done) | (simp_all; omega)); rw [rchL_no hb, hb]; first | exact RetSl.lit 0 hp rfl rfl (by decide) | exact RetSl.nil hp.ext0)
end Go.Proofs.Ytjhlhkglpecdbaa
