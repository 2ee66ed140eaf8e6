import Derived.Test.YtgnnlgmeagipjaaUc
import Derived.Test.YtgnnlgmeagipjaaJh
import Derived.Test.YtgnnlgmeagipjaaTh
import Derived.Test.YtgnnlgmeagipjaaTi
import Derived.Test.YtgnnlgmeagipjaaTk
import Derived.Test.YtgnnlgmeagipjaaTr
import Derived.Test.YtgnnlgmeagipjaaTs
import Derived.KernelRfl
set_option linter.unusedVariables false
set_option linter.unusedSimpArgs false
namespace Go.Proofs.Ytgnnlgmeagipjaa
open Go Go.RowKit K
theorem rHas_c (l : List Int) (n : Int) (v : Value) (w : World) (hsr : SR w 1 v l.length (ints l)) : Calls Try.prog 31 ([v, .int .i64 n]).toArray w (fun e w' => e = .returned (.bool (decide (n ∈ l))) ∧ Ext w w') := by
  obtain ⟨a, cap, rfl, hcap, hmax⟩ := hsr.slice
  have hlen := hsr.len_le
  refine calls_ct Try.func31 Try.ntmps31 rfl rfl ?_
  refine ct_seq ?_
  refine ct_reg ?_
  refine rl_val gw_none (ov_assign rfl) rfl ?_
  refine rl_nil ?_
  refine at_then ?_
  refine ct_seq ?_
  refine ct_seq ?_
  refine ct_reg ?_
  refine rl_val gw_none (ov_assign rfl) rfl ?_
  refine rl_nil ?_
  refine at_then ?_
  refine ct_block ?_
  refine ct_loopR (ι := Nat) (fun k => [(5, .int .i64 k)]) [(0, _), (1, _)] (fun _ => _) (fun k => k ≤ l.length ∧ ∀ j x, j < k → l[j]? = some x → x ≠ n) (fun k => l.length - k) (0) (Sub.cons rfl (Sub.cons rfl Sub.nil)) (fun _ hq => hq) (by (repeat' (first | exact Sub.nil | refine Sub.cons ?_ ?_)); all_goals (first | rfl | exact lkInt rfl (by omega))) ⟨Nat.zero_le _, fun j x hj => absurd hj (Nat.not_lt_zero j)⟩ (fun k hi => ?_)
  obtain ⟨hk, hall⟩ := hi
  refine ct_seq ?_
  refine ct_seq ?_
  refine ct_reg ?_
  refine rl_val gw_none (ov_move rfl) rfl ?_
  refine rl_val gw_none (ov_move rfl) rfl ?_
  refine rl_val gw_none (ov_len Try.underlying39 rfl) rfl ?_
  refine rl_val gw_none (ov_lss rfl rfl) rfl ?_
  refine rl_nil ?_
  refine at_then ?_
  first | refine ct_dec rfl (fun h1 => ?_) (fun h1 => ?_) | refine ct_ndec rfl (fun h1 => ?_) (fun h1 => ?_) | refine ct_eq rfl (fun h1 => ?_) (fun h1 => ?_) | refine ct_ne rfl (fun h1 => ?_) (fun h1 => ?_) | refine ct_not rfl (fun h1 => ?_) (fun h1 => ?_) | refine ct_cond rfl (fun h1 => ?_) (fun h1 => ?_)
  ·
    have hk2 : k < l.length := by omega
    obtain ⟨b, o, rfl, hel⟩ := hsr.int hk2
    have hx := getLt hk2
    generalize l[k] = x at *
    have hcx := hel k x hx
    refine ct_skip ?_
    refine at_then ?_
    refine ct_seq ?_
    refine ct_block ?_
    refine ct_seq ?_
    refine ct_reg ?_
    refine rl_val gw_none (ov_move rfl) rfl ?_
    refine rl_val gw_none (ov_move rfl) rfl ?_
    first | refine rl_val gw_none (ov_ix Try.underlying39 sz3 rfl rfl _ rfl (by omega)) rfl ?_ | refine rl_val gw_none (ov_ix Try.underlying39 sz3 rfl rfl (k) (by omega) (by omega)) rfl ?_
    first | refine rl_val gw_none (ov_load 0 sc3 rfl rfl rfl) rfl ?_ | refine rl_val gw_none (ov_load 1 sc3 rfl rfl rfl) rfl ?_ | refine rl_val gw_none (ov_load 2 sc3 rfl rfl rfl) rfl ?_ | refine rl_val gw_none (ov_load 3 sc3 rfl rfl rfl) rfl ?_ | refine rl_val gw_none (ov_loadw sc3 rfl (by assumption)) rfl ?_ | refine rl_val gw_none (ov_load 0 sc3 rfl rfl (by assumption)) rfl ?_ | refine rl_val gw_none (ov_load 1 sc3 rfl rfl (by assumption)) rfl ?_ | refine rl_val gw_none (ov_load 2 sc3 rfl rfl (by assumption)) rfl ?_ | refine rl_val gw_none (ov_load 3 sc3 rfl rfl (by assumption)) rfl ?_
    refine rl_val gw_none (ov_move rfl) rfl ?_
    refine rl_val gw_none (ov_eql rfl rfl) rfl ?_
    refine rl_nil ?_
    refine at_then ?_
    first | refine ct_dec rfl (fun h2 => ?_) (fun h2 => ?_) | refine ct_ndec rfl (fun h2 => ?_) (fun h2 => ?_) | refine ct_eq rfl (fun h2 => ?_) (fun h2 => ?_) | refine ct_ne rfl (fun h2 => ?_) (fun h2 => ?_) | refine ct_not rfl (fun h2 => ?_) (fun h2 => ?_) | refine ct_cond rfl (fun h2 => ?_) (fun h2 => ?_)
    ·
      refine ct_seq ?_
      refine ct_reg ?_
      refine rl_val gw_none (ov_assign rfl) rfl ?_
      refine rl_nil ?_
      refine at_then ?_
      refine ct_ret ?_
      refine at_block_ret ?_
      refine at_then_ret ?_
      refine at_then_ret ?_
      refine at_block_ret ?_
      refine at_then_ret ?_
      refine at_ret1 Try.results31 (ro_tmp rfl) (fun w1 hp => ?_)
      refine ⟨?_, hp.ext0⟩
      first | (have hm : n ∈ l := List.mem_iff_getElem?.2 ⟨k, by rw [hx, h2]⟩; rw [decide_eq_true hm]; done) | (rw [decide_eq_false (fun hm => by obtain ⟨j, hj⟩ := List.mem_iff_getElem?.1 hm; exact hall j n (List.getElem?_eq_some_iff.1 hj).1 hj rfl)]; done)
    ·
      refine ct_skip ?_
      refine at_block ?_
      refine at_then ?_
      refine ct_reg ?_
      refine rl_val gw_none (ov_move rfl) rfl ?_
      refine rl_val gw_none (ov_add rfl rfl (by omega)) rfl ?_
      refine rl_val gw_none (ov_assign rfl) rfl ?_
      refine rl_nil ?_
      exact at_backR (k + 1) ⟨hk2, fun j y hj hy => by by_cases hjk : j = k; exact (by subst hjk; rw [hx] at hy; obtain rfl := Option.some.inj hy; omega); exact hall j y (by omega) hy⟩ (by first | exact True.intro | omega | (dsimp only; omega) | (dsimp only at *; omega)) (by (repeat' (first | exact Sub.nil | refine Sub.cons ?_ ?_)); all_goals (first | rfl | exact lkInt rfl (by omega))) (Sub.cons rfl (Sub.cons rfl Sub.nil)) (fun _ hq => hq)
  ·
    have hke : k = l.length := by omega
    subst hke
    refine ct_exit ?_
    refine at_then_exit ?_
    refine at_then_exit ?_
    refine at_block_hit ?_
    refine at_then ?_
    refine ct_seq ?_
    refine ct_reg ?_
    refine rl_val gw_none (ov_assign rfl) rfl ?_
    refine rl_nil ?_
    refine at_then ?_
    refine ct_ret ?_
    refine at_ret1 Try.results31 (ro_tmp rfl) (fun w1 hp => ?_)
    refine ⟨?_, hp.ext0⟩
    first | (have hm : n ∈ l := List.mem_iff_getElem?.2 ⟨k, by rw [hx, h2]⟩; rw [decide_eq_true hm]; done) | (rw [decide_eq_false (fun hm => by obtain ⟨j, hj⟩ := List.mem_iff_getElem?.1 hm; exact hall j n (List.getElem?_eq_some_iff.1 hj).1 hj rfl)]; done)

theorem rBig_c (a : Option Addr) (lc capc : Nat) (w : World) (hl : lc ≤ 9223372036854775807) : Calls Try.prog 17 ([.slice a lc capc]).toArray w (fun e w' => e = .returned (.bool (decide ((lc : Int) > 65536))) ∧ Ext w w') := by
  refine calls_ct Try.func17 Try.ntmps17 rfl rfl ?_
  refine ct_seq ?_
  refine ct_reg ?_
  refine rl_val gw_none (ov_assign rfl) rfl ?_
  refine rl_nil ?_
  refine at_then ?_
  refine ct_seq ?_
  refine ct_reg ?_
  refine rl_val gw_none (ov_move rfl) rfl ?_
  refine rl_val gw_none (ov_len Try.underlying37 rfl) rfl ?_
  refine rl_val gw_none (ov_gtr rfl rfl) rfl ?_
  refine rl_val gw_none (ov_assign rfl) rfl ?_
  refine rl_nil ?_
  refine at_then ?_
  refine ct_ret ?_
  refine at_ret1 Try.results17 (ro_tmp rfl) (fun w1 hp => ?_)
  exact ⟨rfl, hp.ext0⟩

theorem short_y (xs : List Road) (f t : Int) (vxs : Value) (w : World) (hGxs : ∀ y ∈ xs, GRoad y) (hsxs : SR w 3 vxs xs.length (flat encRoad xs)) (zf : In64 f) (zt : In64 t) :
    Calls Try.prog 28 [vxs, .int .i64 t, .int .i64 f].toArray w (fun e w' => e = .returned (.tuple #[.int .i64 (swR xs f t), .bool (swB xs f t)]) ∧ Ext w w') := by
  have h := iShortestWay_c xs t f vxs w hGxs hsxs zt zf
  rw [(sw_symm xs f t).1, (sw_symm xs f t).2] at h
  exact h

theorem law_FnWays (cs : List Int) (vcs : Value) (w : World) (hGcs : ∀ x ∈ cs, 0 ≤ x ∧ x ≤ 255) (hscs : SR w 1 vcs cs.length (flat (fun i => [Value.int .u8 i]) cs)) : Calls Try.prog 6 ([vcs]).toArray w (fun e w' => e = .returned (.bool true) ∧ Ext w w') := by
  obtain ⟨a, capc, rfl, _, _⟩ := hscs.slice
  have hlenc := hscs.len_le
  have hcd := CodeOk.ofF hscs hGcs
  refine calls_ct Try.func6 Try.ntmps6 rfl rfl ?_
  refine ct_seq ?_
  refine ct_reg ?_
  refine rl_val gw_none (ov_assign rfl) rfl ?_
  refine rl_nil ?_
  refine at_then ?_
  refine ct_seq ?_
  refine ct_seq ?_
  refine ct_reg ?_
  refine rl_val gw_none (ov_move rfl) rfl ?_
  refine rl_callv gw_none goes17 rfl (fun w1 hp => rBig_c _ _ _ _ hlenc) rfl ?_
  refine rl_nil ?_
  refine at_then ?_
  first | refine ct_dec rfl (fun h1 => ?_) (fun h1 => ?_) | refine ct_ndec rfl (fun h1 => ?_) (fun h1 => ?_) | refine ct_eq rfl (fun h1 => ?_) (fun h1 => ?_) | refine ct_ne rfl (fun h1 => ?_) (fun h1 => ?_) | refine ct_not rfl (fun h1 => ?_) (fun h1 => ?_) | refine ct_cond rfl (fun h1 => ?_) (fun h1 => ?_)
  ·
    skip
    refine ct_seq ?_
    refine ct_reg ?_
    refine rl_val gw_none (ov_assign rfl) rfl ?_
    refine rl_nil ?_
    refine at_then ?_
    refine ct_ret ?_
    refine at_then_ret ?_
    refine at_ret1 Try.results6 (ro_tmp rfl) (fun w1 hp => ?_)
    refine ⟨?_, hp.ext0⟩
    first | rfl | (simp; done)
  ·
    refine ct_skip ?_
    refine at_then ?_
    refine ct_seq ?_
    refine ct_reg ?_
    refine rl_val gw_none (ov_move rfl) rfl ?_
    refine rl_calle (ι := (Option Nat × Nat × List Value × List Road) × Int × Int) (fun q => .tuple #[sv q.1.1 q.1.2.2.2.length q.1.2.1, .int .i64 q.2.1, .int .i64 q.2.2]) (fun q => [(q.1.1, 65, flat encRoad q.1.2.2.2 ++ q.1.2.2.1)]) (fun q => (Sl 3 q.1.1 q.1.2.2.2.length q.1.2.1 (flat encRoad q.1.2.2.2) q.1.2.2.1 ∧ q.1.2.2.2.length ≤ 70 ∧ (∀ y ∈ q.1.2.2.2, GRoad y)) ∧ In64 q.2.1 ∧ In64 q.2.2) goes27 rfl (fun w1 hp => DrawShortestWay_c _ _ _ _ (hcd.call hp (E := []) (by simp))) rfl (fun qd hqd => ?_)
    obtain ⟨⟨br, cr, pr, xs⟩, f, t⟩ := qd
    obtain ⟨⟨hslr, hr, hGr⟩, zf, zt⟩ := hqd
    dsimp only at hslr hr hGr zf zt
    try dsimp only
    refine rl_val gw_none (ov_move rfl) rfl ?_
    refine rl_val gw_none (ov_extract rfl rfl) rfl ?_
    refine rl_val gw_none (ov_extract rfl rfl) rfl ?_
    refine rl_val gw_none (ov_extract rfl rfl) rfl ?_
    refine rl_val gw_none (ov_assign rfl) rfl ?_
    refine rl_val gw_none (ov_assign rfl) rfl ?_
    refine rl_val gw_none (ov_assign rfl) rfl ?_
    refine rl_nil ?_
    refine at_then ?_
    refine ct_seq ?_
    refine ct_reg ?_
    refine rl_val gw_none (ov_move rfl) rfl ?_
    refine rl_val gw_none (ov_move rfl) rfl ?_
    refine rl_val gw_none (ov_move rfl) rfl ?_
    refine rl_callv gw_none goes28 rfl (fun w1 hp => iShortestWay_c xs f t _ _ hGr (hp.slsr 0 rfl hslr) zf zt) rfl ?_
    refine rl_val gw_none (ov_move rfl) rfl ?_
    refine rl_val gw_none (ov_extract rfl rfl) rfl ?_
    refine rl_val gw_none (ov_extract rfl rfl) rfl ?_
    refine rl_val gw_none (ov_assign rfl) rfl ?_
    refine rl_val gw_none (ov_assign rfl) rfl ?_
    refine rl_nil ?_
    refine at_then ?_
    refine ct_seq ?_
    refine ct_reg ?_
    refine rl_val gw_none (ov_move rfl) rfl ?_
    refine rl_val gw_none (ov_move rfl) rfl ?_
    refine rl_val gw_none (ov_move rfl) rfl ?_
    refine rl_callv gw_none goes28 rfl (fun w1 hp => short_y xs f t _ _ hGr (hp.slsr 0 rfl hslr) zf zt) rfl ?_
    refine rl_val gw_none (ov_move rfl) rfl ?_
    refine rl_val gw_none (ov_extract rfl rfl) rfl ?_
    refine rl_val gw_none (ov_extract rfl rfl) rfl ?_
    refine rl_val gw_none (ov_assign rfl) rfl ?_
    refine rl_val gw_none (ov_assign rfl) rfl ?_
    refine rl_nil ?_
    refine at_then ?_
    refine ct_seq ?_
    refine ct_seq ?_
    refine ct_reg ?_
    refine rl_val gw_none (ov_move rfl) rfl ?_
    refine rl_val gw_none (ov_move rfl) rfl ?_
    refine rl_val gw_none (ov_move rfl) rfl ?_
    refine rl_callv gw_none goes29 rfl (fun w1 hp => sShortestWay_c xs f t _ _ hGr (hp.slsr 0 rfl hslr) zf zt) rfl ?_
    refine rl_val gw_none (ov_move rfl) rfl ?_
    refine rl_val gw_none (ov_extract rfl rfl) rfl ?_
    refine rl_val gw_none (ov_extract rfl rfl) rfl ?_
    refine rl_val gw_none (ov_assign rfl) rfl ?_
    refine rl_val gw_none (ov_assign rfl) rfl ?_
    refine rl_nil ?_
    refine at_then ?_
    refine ct_seq ?_
    refine ct_reg ?_
    refine rl_val gw_none (ov_move rfl) rfl ?_
    refine rl_val gw_none (ov_move rfl) rfl ?_
    refine rl_val gw_none (ov_neq rfl rfl) rfl ?_
    refine rl_val gw_none (ov_move rfl) rfl ?_
    refine rl_split (t := 67) rfl (fun g1 => ?_) (fun g1 => ?_)
    ·
      exfalso; first | (simp at g1; omega) | (simp at g1; done) | (simp_all; done)
    ·
      refine rl_val (gw_some rfl rfl g1) (ov_move rfl) rfl ?_
      refine rl_val (gw_some rfl rfl g1) (ov_move rfl) rfl ?_
      refine rl_val (gw_some rfl rfl g1) (ov_neb Try.underlying4 rfl rfl) rfl ?_
      refine rl_val gw_none (ov_pick_f rfl g1 rfl) rfl ?_
      refine rl_val gw_none (ov_move rfl) rfl ?_
      refine rl_split (t := 72) rfl (fun g2 => ?_) (fun g2 => ?_)
      ·
        exfalso; first | (simp at g2; omega) | (simp at g2; done) | (simp_all; done)
      ·
        refine rl_val (gw_some rfl rfl g2) (ov_move rfl) rfl ?_
        refine rl_val (gw_some rfl rfl g2) (ov_move rfl) rfl ?_
        refine rl_val (gw_some rfl rfl g2) (ov_neq rfl rfl) rfl ?_
        refine rl_val gw_none (ov_pick_f rfl g2 rfl) rfl ?_
        refine rl_val gw_none (ov_move rfl) rfl ?_
        refine rl_split (t := 77) rfl (fun g3 => ?_) (fun g3 => ?_)
        ·
          exfalso; first | (simp at g3; omega) | (simp at g3; done) | (simp_all; done)
        ·
          refine rl_val (gw_some rfl rfl g3) (ov_move rfl) rfl ?_
          refine rl_val (gw_some rfl rfl g3) (ov_move rfl) rfl ?_
          refine rl_val (gw_some rfl rfl g3) (ov_neb Try.underlying4 rfl rfl) rfl ?_
          refine rl_val gw_none (ov_pick_f rfl g3 rfl) rfl ?_
          refine rl_nil ?_
          refine at_then ?_
          first | refine ct_dec rfl (fun h2 => ?_) (fun h2 => ?_) | refine ct_ndec rfl (fun h2 => ?_) (fun h2 => ?_) | refine ct_eq rfl (fun h2 => ?_) (fun h2 => ?_) | refine ct_ne rfl (fun h2 => ?_) (fun h2 => ?_) | refine ct_not rfl (fun h2 => ?_) (fun h2 => ?_) | refine ct_cond rfl (fun h2 => ?_) (fun h2 => ?_)
          ·
            exfalso; first | omega | exact absurd rfl h2 | (simp at h2; done) | (simp_all; done)
          ·
            refine ct_skip ?_
            refine at_then ?_
            refine ct_cutS (ι := Unit) (fun _ => []) [(0, _)] _ (fun _ => True) (Sub.cons rfl Sub.nil) (fun _ hq => hq) ?_ (fun _ _ => ?_)
            ·
              refine ct_seq ?_
              refine ct_reg ?_
              refine rl_val gw_none (ov_move rfl) rfl ?_
              refine rl_nil ?_
              refine at_then ?_
              first | refine ct_dec rfl (fun h3 => ?_) (fun h3 => ?_) | refine ct_ndec rfl (fun h3 => ?_) (fun h3 => ?_) | refine ct_eq rfl (fun h3 => ?_) (fun h3 => ?_) | refine ct_ne rfl (fun h3 => ?_) (fun h3 => ?_) | refine ct_not rfl (fun h3 => ?_) (fun h3 => ?_) | refine ct_cond rfl (fun h3 => ?_) (fun h3 => ?_)
              ·
                obtain ⟨hTw, hTt, hTf⟩ := sw_tw h3
                have hnb := sw_bd xs f t
                have zn : In64 (swR xs f t) := by unfold In64; omega
                refine ct_seq ?_
                refine ct_reg ?_
                refine rl_val gw_none (ov_move rfl) rfl ?_
                refine rl_val gw_none (ov_move rfl) rfl ?_
                refine rl_val gw_none (ov_move rfl) rfl ?_
                refine rl_callsl (ι := Nat × List Value) (fun i bo => .tuple #[sv bo (twL xs f (swR xs f t)).length i.1, .bool (twB xs f (swR xs f t))]) (fun i => ints (twL xs f (swR xs f t)) ++ i.2) (fun i bo => Sl 1 bo (twL xs f (swR xs f t)).length i.1 (ints (twL xs f (swR xs f t))) i.2) goes30 rfl (fun w1 hp => iTownsWithin_c xs f (swR xs f t) _ _ hGr (hp.slsr 0 rfl hslr) zf zn) rfl (fun iT1 boT1 hsT1 => ?_)
                refine rl_val gw_none (ov_move rfl) rfl ?_
                refine rl_val gw_none (ov_extract rfl rfl) rfl ?_
                refine rl_val gw_none (ov_extract rfl rfl) rfl ?_
                refine rl_val gw_none (ov_assign rfl) rfl ?_
                refine rl_val gw_none (ov_assign rfl) rfl ?_
                refine rl_nil ?_
                refine at_then ?_
                refine ct_seq ?_
                refine ct_seq ?_
                refine ct_reg ?_
                refine rl_val gw_none (ov_move rfl) rfl ?_
                refine rl_val gw_none (ov_not rfl) rfl ?_
                refine rl_val gw_none (ov_move rfl) rfl ?_
                refine rl_split (t := 92) rfl (fun g4 => ?_) (fun g4 => ?_)
                ·
                  exfalso; first | (simp at g4; omega) | (simp at g4; done) | (simp_all; done)
                ·
                  refine rl_val (gw_some rfl rfl g4) (ov_move rfl) rfl ?_
                  refine rl_val (gw_some rfl rfl g4) (ov_move rfl) rfl ?_
                  refine rl_callv (gw_some rfl rfl g4) goes31 rfl (fun w1 hp => rHas_c (twL xs f (swR xs f t)) t _ _ (hp.slsr 0 rfl hsT1)) rfl ?_
                  refine rl_val (gw_some rfl rfl g4) (ov_not rfl) rfl ?_
                  refine rl_val gw_none (ov_pick_f rfl g4 rfl) rfl ?_
                  refine rl_val gw_none (ov_move rfl) rfl ?_
                  refine rl_split (t := 98) rfl (fun g5 => ?_) (fun g5 => ?_)
                  ·
                    exfalso; first | (simp at g5; omega) | (simp at g5; done) | (simp_all; done)
                  ·
                    refine rl_val (gw_some rfl rfl g5) (ov_move rfl) rfl ?_
                    refine rl_val (gw_some rfl rfl g5) (ov_move rfl) rfl ?_
                    refine rl_callv (gw_some rfl rfl g5) goes31 rfl (fun w1 hp => rHas_c (twL xs f (swR xs f t)) f _ _ (hp.slsr 0 rfl hsT1)) rfl ?_
                    refine rl_val (gw_some rfl rfl g5) (ov_not rfl) rfl ?_
                    refine rl_val gw_none (ov_pick_f rfl g5 rfl) rfl ?_
                    refine rl_nil ?_
                    refine at_then ?_
                    first | refine ct_dec rfl (fun h4 => ?_) (fun h4 => ?_) | refine ct_ndec rfl (fun h4 => ?_) (fun h4 => ?_) | refine ct_eq rfl (fun h4 => ?_) (fun h4 => ?_) | refine ct_ne rfl (fun h4 => ?_) (fun h4 => ?_) | refine ct_not rfl (fun h4 => ?_) (fun h4 => ?_) | refine ct_cond rfl (fun h4 => ?_) (fun h4 => ?_)
                    ·
                      exfalso; first | omega | exact absurd rfl h4 | (simp at h4; done) | (simp_all; done)
                    ·
                      refine ct_skip ?_
                      refine at_then ?_
                      refine ct_seq ?_
                      refine ct_reg ?_
                      refine rl_val gw_none (ov_assign rfl) rfl ?_
                      refine rl_nil ?_
                      refine at_then ?_
                      refine ct_block ?_
                      refine ct_loopR (ι := Nat) (fun k => [(14, .int .i64 k)]) [(0, _), (3, _), (4, _), (5, _), (6, _)] (fun _ => _) (fun k => k ≤ 8) (fun k => 8 - k) (0) (Sub.cons rfl (Sub.cons rfl (Sub.cons rfl (Sub.cons rfl (Sub.cons rfl Sub.nil))))) (fun _ hq => hq) (by (repeat' (first | exact Sub.nil | refine Sub.cons ?_ ?_)); all_goals (first | rfl | exact lkInt rfl (by omega))) (by first | exact True.intro | omega | (dsimp only; omega) | (dsimp only at *; omega)) (fun k hk => ?_)
                      refine ct_seq ?_
                      refine ct_seq ?_
                      refine ct_reg ?_
                      refine rl_val gw_none (ov_move rfl) rfl ?_
                      refine rl_val gw_none (ov_lss rfl rfl) rfl ?_
                      refine rl_nil ?_
                      refine at_then ?_
                      first | refine ct_dec rfl (fun h5 => ?_) (fun h5 => ?_) | refine ct_ndec rfl (fun h5 => ?_) (fun h5 => ?_) | refine ct_eq rfl (fun h5 => ?_) (fun h5 => ?_) | refine ct_ne rfl (fun h5 => ?_) (fun h5 => ?_) | refine ct_not rfl (fun h5 => ?_) (fun h5 => ?_) | refine ct_cond rfl (fun h5 => ?_) (fun h5 => ?_)
                      ·
                        have hk8 : k < 8 := by omega
                        have zk : In64 (k : Int) := by unfold In64; omega
                        refine ct_skip ?_
                        refine at_then ?_
                        refine ct_seq ?_
                        refine ct_block ?_
                        refine ct_seq ?_
                        refine ct_reg ?_
                        refine rl_val gw_none (ov_move rfl) rfl ?_
                        refine rl_val gw_none (ov_move rfl) rfl ?_
                        refine rl_val gw_none (ov_move rfl) rfl ?_
                        refine rl_callv gw_none goes28 rfl (fun w1 hp => iShortestWay_c xs f (k : Int) _ _ hGr (hp.slsr 1 rfl hslr) zf zk) rfl ?_
                        refine rl_val gw_none (ov_move rfl) rfl ?_
                        refine rl_val gw_none (ov_extract rfl rfl) rfl ?_
                        refine rl_val gw_none (ov_extract rfl rfl) rfl ?_
                        refine rl_val gw_none (ov_assign rfl) rfl ?_
                        refine rl_val gw_none (ov_assign rfl) rfl ?_
                        refine rl_nil ?_
                        refine at_then ?_
                        refine ct_seq ?_
                        refine ct_reg ?_
                        refine rl_val gw_none (ov_move rfl) rfl ?_
                        refine rl_val gw_none (ov_move rfl) rfl ?_
                        refine rl_val gw_none (ov_move rfl) rfl ?_
                        refine rl_callv gw_none goes28 rfl (fun w1 hp => iShortestWay_c xs (k : Int) t _ _ hGr (hp.slsr 1 rfl hslr) zk zt) rfl ?_
                        refine rl_val gw_none (ov_move rfl) rfl ?_
                        refine rl_val gw_none (ov_extract rfl rfl) rfl ?_
                        refine rl_val gw_none (ov_extract rfl rfl) rfl ?_
                        refine rl_val gw_none (ov_assign rfl) rfl ?_
                        refine rl_val gw_none (ov_assign rfl) rfl ?_
                        refine rl_nil ?_
                        refine at_then ?_
                        refine ct_seq ?_
                        refine ct_reg ?_
                        refine rl_val gw_none (ov_move rfl) rfl ?_
                        refine rl_val gw_none (ov_move rfl) rfl ?_
                        refine rl_split (t := 123) rfl (fun g6 => ?_) (fun g6 => ?_)
                        ·
                          have hkb := sw_bd xs f (k : Int)
                          refine rl_val (gw_some rfl rfl g6) (ov_move rfl) rfl ?_
                          refine rl_val gw_none (ov_pick_t rfl g6 rfl) rfl ?_
                          refine rl_val gw_none (ov_move rfl) rfl ?_
                          refine rl_split (t := 126) rfl (fun g7 => ?_) (fun g7 => ?_)
                          ·
                            have hkc := sw_bd xs (k : Int) t
                            have htr := sw_tri h3 g6 g7
                            refine rl_val (gw_some rfl rfl g7) (ov_move rfl) rfl ?_
                            refine rl_val (gw_some rfl rfl g7) (ov_move rfl) rfl ?_
                            refine rl_val (gw_some rfl rfl g7) (ov_add rfl rfl (by omega)) rfl ?_
                            refine rl_val (gw_some rfl rfl g7) (ov_move rfl) rfl ?_
                            refine rl_val (gw_some rfl rfl g7) (ov_lss rfl rfl) rfl ?_
                            refine rl_val gw_none (ov_pick_t rfl g7 rfl) rfl ?_
                            refine rl_nil ?_
                            refine at_then ?_
                            first | refine ct_dec rfl (fun h6 => ?_) (fun h6 => ?_) | refine ct_ndec rfl (fun h6 => ?_) (fun h6 => ?_) | refine ct_eq rfl (fun h6 => ?_) (fun h6 => ?_) | refine ct_ne rfl (fun h6 => ?_) (fun h6 => ?_) | refine ct_not rfl (fun h6 => ?_) (fun h6 => ?_) | refine ct_cond rfl (fun h6 => ?_) (fun h6 => ?_)
                            ·
                              exfalso; omega
                            ·
                              refine ct_skip ?_
                              refine at_block ?_
                              refine at_then ?_
                              refine ct_reg ?_
                              refine rl_val gw_none (ov_move rfl) rfl ?_
                              refine rl_val gw_none (ov_add rfl rfl (by omega)) rfl ?_
                              refine rl_val gw_none (ov_assign rfl) rfl ?_
                              refine rl_nil ?_
                              exact at_backR (k + 1) (by first | exact True.intro | omega | (dsimp only; omega) | (dsimp only at *; omega)) (by first | exact True.intro | omega | (dsimp only; omega) | (dsimp only at *; omega)) (by (repeat' (first | exact Sub.nil | refine Sub.cons ?_ ?_)); all_goals (first | rfl | exact lkInt rfl (by omega))) (Sub.cons rfl (Sub.cons rfl (Sub.cons rfl (Sub.cons rfl (Sub.cons rfl Sub.nil))))) (fun _ hq => hq)
                          ·
                            skip
                            refine rl_skip (gw_not rfl rfl g7) rfl ?_
                            refine rl_skip (gw_not rfl rfl g7) rfl ?_
                            refine rl_skip (gw_not rfl rfl g7) rfl ?_
                            refine rl_skip (gw_not rfl rfl g7) rfl ?_
                            refine rl_skip (gw_not rfl rfl g7) rfl ?_
                            refine rl_val gw_none (ov_pick_f rfl g7 rfl) rfl ?_
                            refine rl_nil ?_
                            refine at_then ?_
                            refine ct_false rfl rfl ?_
                            refine ct_skip ?_
                            refine at_block ?_
                            refine at_then ?_
                            refine ct_reg ?_
                            refine rl_val gw_none (ov_move rfl) rfl ?_
                            refine rl_val gw_none (ov_add rfl rfl (by omega)) rfl ?_
                            refine rl_val gw_none (ov_assign rfl) rfl ?_
                            refine rl_nil ?_
                            exact at_backR (k + 1) (by first | exact True.intro | omega | (dsimp only; omega) | (dsimp only at *; omega)) (by first | exact True.intro | omega | (dsimp only; omega) | (dsimp only at *; omega)) (by (repeat' (first | exact Sub.nil | refine Sub.cons ?_ ?_)); all_goals (first | rfl | exact lkInt rfl (by omega))) (Sub.cons rfl (Sub.cons rfl (Sub.cons rfl (Sub.cons rfl (Sub.cons rfl Sub.nil))))) (fun _ hq => hq)
                        ·
                          skip
                          refine rl_skip (gw_not rfl rfl g6) rfl ?_
                          refine rl_val gw_none (ov_pick_f rfl g6 rfl) rfl ?_
                          refine rl_val gw_none (ov_move rfl) rfl ?_
                          refine rl_skip (gw_not rfl rfl rfl) rfl ?_
                          refine rl_skip (gw_not rfl rfl rfl) rfl ?_
                          refine rl_skip (gw_not rfl rfl rfl) rfl ?_
                          refine rl_skip (gw_not rfl rfl rfl) rfl ?_
                          refine rl_skip (gw_not rfl rfl rfl) rfl ?_
                          refine rl_val gw_none (ov_pick_f rfl rfl rfl) rfl ?_
                          refine rl_nil ?_
                          refine at_then ?_
                          refine ct_false rfl rfl ?_
                          refine ct_skip ?_
                          refine at_block ?_
                          refine at_then ?_
                          refine ct_reg ?_
                          refine rl_val gw_none (ov_move rfl) rfl ?_
                          refine rl_val gw_none (ov_add rfl rfl (by omega)) rfl ?_
                          refine rl_val gw_none (ov_assign rfl) rfl ?_
                          refine rl_nil ?_
                          exact at_backR (k + 1) (by first | exact True.intro | omega | (dsimp only; omega) | (dsimp only at *; omega)) (by first | exact True.intro | omega | (dsimp only; omega) | (dsimp only at *; omega)) (by (repeat' (first | exact Sub.nil | refine Sub.cons ?_ ?_)); all_goals (first | rfl | exact lkInt rfl (by omega))) (Sub.cons rfl (Sub.cons rfl (Sub.cons rfl (Sub.cons rfl (Sub.cons rfl Sub.nil))))) (fun _ hq => hq)
                      ·
                        skip
                        refine ct_exit ?_
                        refine at_then_exit ?_
                        refine at_then_exit ?_
                        refine at_block_hit ?_
                        exact at_handR () trivial (by (repeat' (first | exact Sub.nil | refine Sub.cons ?_ ?_)); all_goals (first | rfl | exact lkInt rfl (by omega))) (Sub.cons rfl Sub.nil) (fun _ hq => hq.drop)
              ·
                skip
                refine ct_skip ?_
                exact at_handR () trivial (by (repeat' (first | exact Sub.nil | refine Sub.cons ?_ ?_)); all_goals (first | rfl | exact lkInt rfl (by omega))) (Sub.cons rfl Sub.nil) (fun _ hq => hq)
            ·
              refine ct_seq ?_
              refine ct_reg ?_
              refine rl_val gw_none (ov_move rfl) rfl ?_
              refine rl_calle (ι := (Option Nat × Nat × List Value × List Road) × Int × Int) (fun q => .tuple #[sv q.1.1 q.1.2.2.2.length q.1.2.1, .int .i64 q.2.1, .int .i64 q.2.2]) (fun q => [(q.1.1, 65, flat encRoad q.1.2.2.2 ++ q.1.2.2.1)]) (fun q => (Sl 3 q.1.1 q.1.2.2.2.length q.1.2.1 (flat encRoad q.1.2.2.2) q.1.2.2.1 ∧ q.1.2.2.2.length ≤ 70 ∧ (∀ y ∈ q.1.2.2.2, GRoad y)) ∧ In64 q.2.1 ∧ In64 q.2.2) goes32 rfl (fun w1 hp => DrawTownsWithin_c _ _ _ _ (hcd.call hp (E := []) (by simp))) rfl (fun qd hqd => ?_)
              obtain ⟨⟨br2, cr2, pr2, xs2⟩, f2, t2⟩ := qd
              obtain ⟨⟨hslr2, hr2, hGr2⟩, zf2, zt2⟩ := hqd
              dsimp only at hslr2 hr2 hGr2 zf2 zt2
              try dsimp only
              refine rl_val gw_none (ov_move rfl) rfl ?_
              refine rl_val gw_none (ov_extract rfl rfl) rfl ?_
              refine rl_val gw_none (ov_extract rfl rfl) rfl ?_
              refine rl_val gw_none (ov_extract rfl rfl) rfl ?_
              refine rl_val gw_none (ov_assign rfl) rfl ?_
              refine rl_val gw_none (ov_assign rfl) rfl ?_
              refine rl_val gw_none (ov_assign rfl) rfl ?_
              refine rl_nil ?_
              refine at_then ?_
              refine ct_seq ?_
              refine ct_reg ?_
              refine rl_val gw_none (ov_move rfl) rfl ?_
              refine rl_val gw_none (ov_move rfl) rfl ?_
              refine rl_val gw_none (ov_move rfl) rfl ?_
              refine rl_callsl (ι := Nat × List Value) (fun i bo => .tuple #[sv bo (twL xs2 f2 t2).length i.1, .bool (twB xs2 f2 t2)]) (fun i => ints (twL xs2 f2 t2) ++ i.2) (fun i bo => Sl 1 bo (twL xs2 f2 t2).length i.1 (ints (twL xs2 f2 t2)) i.2) goes30 rfl (fun w1 hp => iTownsWithin_c xs2 f2 t2 _ _ hGr2 (hp.slsr 0 rfl hslr2) zf2 zt2) rfl (fun iT2 boT2 hsT2 => ?_)
              refine rl_val gw_none (ov_move rfl) rfl ?_
              refine rl_val gw_none (ov_extract rfl rfl) rfl ?_
              refine rl_val gw_none (ov_extract rfl rfl) rfl ?_
              refine rl_val gw_none (ov_assign rfl) rfl ?_
              refine rl_val gw_none (ov_assign rfl) rfl ?_
              refine rl_nil ?_
              refine at_then ?_
              refine ct_seq ?_
              refine ct_seq ?_
              refine ct_reg ?_
              refine rl_val gw_none (ov_move rfl) rfl ?_
              refine rl_val gw_none (ov_move rfl) rfl ?_
              refine rl_val gw_none (ov_move rfl) rfl ?_
              refine rl_callsl (ι := Nat × List Value) (fun i bo => .tuple #[sv bo (twL xs2 f2 t2).length i.1, .bool (twB xs2 f2 t2)]) (fun i => ints (twL xs2 f2 t2) ++ i.2) (fun i bo => Sl 1 bo (twL xs2 f2 t2).length i.1 (ints (twL xs2 f2 t2)) i.2) goes33 rfl (fun w1 hp => sTownsWithin_c xs2 f2 t2 _ _ hGr2 (hp.slsr 1 rfl hslr2) zf2 zt2) rfl (fun iT3 boT3 hsT3 => ?_)
              refine rl_val gw_none (ov_move rfl) rfl ?_
              refine rl_val gw_none (ov_extract rfl rfl) rfl ?_
              refine rl_val gw_none (ov_extract rfl rfl) rfl ?_
              refine rl_val gw_none (ov_assign rfl) rfl ?_
              refine rl_val gw_none (ov_assign rfl) rfl ?_
              refine rl_nil ?_
              refine at_then ?_
              refine ct_seq ?_
              refine ct_reg ?_
              refine rl_val gw_none (ov_move rfl) rfl ?_
              refine rl_val gw_none (ov_move rfl) rfl ?_
              refine rl_val gw_none (ov_neb Try.underlying4 rfl rfl) rfl ?_
              refine rl_val gw_none (ov_move rfl) rfl ?_
              refine rl_split (t := 156) rfl (fun g8 => ?_) (fun g8 => ?_)
              ·
                exfalso; first | (simp at g8; omega) | (simp at g8; done) | (simp_all; done)
              ·
                refine rl_val (gw_some rfl rfl g8) (ov_move rfl) rfl ?_
                refine rl_val (gw_some rfl rfl g8) (ov_move rfl) rfl ?_
                refine rl_callv (gw_some rfl rfl g8) goes23 rfl (fun w1 hp => rInts_c _ _ _ _ (hp.slsr 1 rfl hsT2) (hp.slsr 0 rfl hsT3)) rfl ?_
                refine rl_val (gw_some rfl rfl g8) (ov_not rfl) rfl ?_
                refine rl_val gw_none (ov_pick_f rfl g8 rfl) rfl ?_
                refine rl_nil ?_
                refine at_then ?_
                refine ct_false rfl rfl ?_
                refine ct_skip ?_
                refine at_then ?_
                refine ct_seq ?_
                refine ct_reg ?_
                refine rl_val gw_none (ov_move rfl) rfl ?_
                refine rl_calle (ι := Option Nat × Nat × List Value × List Road) (fun q => sv q.1 q.2.2.2.length q.2.1) (fun q => [(q.1, 65, flat encRoad q.2.2.2 ++ q.2.2.1)]) (fun q => Sl 3 q.1 q.2.2.2.length q.2.1 (flat encRoad q.2.2.2) q.2.2.1 ∧ q.2.2.2.length ≤ 70 ∧ (∀ y ∈ q.2.2.2, GRoad y)) goes34 rfl (fun w1 hp => DrawCutTowns_c _ _ _ _ (hcd.call hp (E := []) (by simp))) rfl (fun qd hqd => ?_)
                obtain ⟨br3, cr3, pr3, xs3⟩ := qd
                obtain ⟨hslr3, hr3, hGr3⟩ := hqd
                dsimp only at hslr3 hr3 hGr3
                try dsimp only
                refine rl_val gw_none (ov_assign rfl) rfl ?_
                refine rl_nil ?_
                refine at_then ?_
                refine ct_seq ?_
                refine ct_reg ?_
                refine rl_val gw_none (ov_move rfl) rfl ?_
                refine rl_callsl (ι := Nat × List Value) (fun i bo => .tuple #[sv bo (ctL xs3).length i.1, .bool (roadsB xs3)]) (fun i => ints (ctL xs3) ++ i.2) (fun i bo => Sl 1 bo (ctL xs3).length i.1 (ints (ctL xs3)) i.2) goes35 rfl (fun w1 hp => iCutTowns_c xs3 _ _ hGr3 (hp.slsr 0 rfl hslr3)) rfl (fun iC1 boC1 hsC1 => ?_)
                refine rl_val gw_none (ov_move rfl) rfl ?_
                refine rl_val gw_none (ov_extract rfl rfl) rfl ?_
                refine rl_val gw_none (ov_extract rfl rfl) rfl ?_
                refine rl_val gw_none (ov_assign rfl) rfl ?_
                refine rl_val gw_none (ov_assign rfl) rfl ?_
                refine rl_nil ?_
                refine at_then ?_
                refine ct_seq ?_
                refine ct_seq ?_
                refine ct_reg ?_
                refine rl_val gw_none (ov_move rfl) rfl ?_
                refine rl_callsl (ι := Nat × List Value) (fun i bo => .tuple #[sv bo (ctL xs3).length i.1, .bool (roadsB xs3)]) (fun i => ints (ctL xs3) ++ i.2) (fun i bo => Sl 1 bo (ctL xs3).length i.1 (ints (ctL xs3)) i.2) goes36 rfl (fun w1 hp => sCutTowns_c xs3 _ _ hGr3 (hp.slsr 1 rfl hslr3)) rfl (fun iC2 boC2 hsC2 => ?_)
                refine rl_val gw_none (ov_move rfl) rfl ?_
                refine rl_val gw_none (ov_extract rfl rfl) rfl ?_
                refine rl_val gw_none (ov_extract rfl rfl) rfl ?_
                refine rl_val gw_none (ov_assign rfl) rfl ?_
                refine rl_val gw_none (ov_assign rfl) rfl ?_
                refine rl_nil ?_
                refine at_then ?_
                refine ct_seq ?_
                refine ct_reg ?_
                refine rl_val gw_none (ov_move rfl) rfl ?_
                refine rl_val gw_none (ov_move rfl) rfl ?_
                refine rl_val gw_none (ov_neb Try.underlying4 rfl rfl) rfl ?_
                refine rl_val gw_none (ov_move rfl) rfl ?_
                refine rl_split (t := 177) rfl (fun g9 => ?_) (fun g9 => ?_)
                ·
                  exfalso; first | (simp at g9; omega) | (simp at g9; done) | (simp_all; done)
                ·
                  refine rl_val (gw_some rfl rfl g9) (ov_move rfl) rfl ?_
                  refine rl_val (gw_some rfl rfl g9) (ov_move rfl) rfl ?_
                  refine rl_callv (gw_some rfl rfl g9) goes23 rfl (fun w1 hp => rInts_c _ _ _ _ (hp.slsr 1 rfl hsC1) (hp.slsr 0 rfl hsC2)) rfl ?_
                  refine rl_val (gw_some rfl rfl g9) (ov_not rfl) rfl ?_
                  refine rl_val gw_none (ov_pick_f rfl g9 rfl) rfl ?_
                  refine rl_val gw_none (ov_move rfl) rfl ?_
                  refine rl_val (gw_some rfl rfl rfl) (ov_move rfl) rfl ?_
                  refine rl_val (gw_some rfl rfl rfl) (ov_move rfl) rfl ?_
                  refine rl_callv (gw_some rfl rfl rfl) goes37 rfl (fun w1 hp => iAreRoads_c xs3 _ _ (hp.slsr 2 rfl hslr3)) rfl ?_
                  refine rl_val (gw_some rfl rfl rfl) (ov_neb Try.underlying4 rfl rfl) rfl ?_
                  refine rl_val gw_none (ov_pick_f rfl rfl rfl) rfl ?_
                  refine rl_nil ?_
                  refine at_then ?_
                  first | refine ct_dec rfl (fun h7 => ?_) (fun h7 => ?_) | refine ct_ndec rfl (fun h7 => ?_) (fun h7 => ?_) | refine ct_eq rfl (fun h7 => ?_) (fun h7 => ?_) | refine ct_ne rfl (fun h7 => ?_) (fun h7 => ?_) | refine ct_not rfl (fun h7 => ?_) (fun h7 => ?_) | refine ct_cond rfl (fun h7 => ?_) (fun h7 => ?_)
                  ·
                    exfalso; first | omega | exact absurd rfl h7 | (simp at h7; done) | (simp_all; done)
                  ·
                    refine ct_skip ?_
                    refine at_then ?_
                    refine ct_seq ?_
                    refine ct_reg ?_
                    refine rl_val gw_none (ov_move rfl) rfl ?_
                    refine rl_callv gw_none goes38 rfl (fun w1 hp => iRoadsText_c xs3 _ _ hGr3 (hp.slsr 2 rfl hslr3)) rfl ?_
                    refine rl_val gw_none (ov_move rfl) rfl ?_
                    refine rl_val gw_none (ov_extract rfl rfl) rfl ?_
                    refine rl_val gw_none (ov_extract rfl rfl) rfl ?_
                    refine rl_val gw_none (ov_assign rfl) rfl ?_
                    refine rl_val gw_none (ov_assign rfl) rfl ?_
                    refine rl_nil ?_
                    refine at_then ?_
                    refine ct_seq ?_
                    refine ct_reg ?_
                    refine rl_val gw_none (ov_move rfl) rfl ?_
                    refine rl_callv gw_none goes39 rfl (fun w1 hp => sRoadsText_c xs3 _ _ hGr3 (hp.slsr 2 rfl hslr3)) rfl ?_
                    refine rl_val gw_none (ov_move rfl) rfl ?_
                    refine rl_val gw_none (ov_extract rfl rfl) rfl ?_
                    refine rl_val gw_none (ov_extract rfl rfl) rfl ?_
                    refine rl_val gw_none (ov_assign rfl) rfl ?_
                    refine rl_val gw_none (ov_assign rfl) rfl ?_
                    refine rl_nil ?_
                    refine at_then ?_
                    refine ct_seq ?_
                    refine ct_reg ?_
                    refine rl_val gw_none (ov_move rfl) rfl ?_
                    refine rl_val gw_none (ov_move rfl) rfl ?_
                    refine rl_val gw_none (ov_seql rfl rfl) rfl ?_
                    refine rl_val gw_none (ov_move rfl) rfl ?_
                    refine rl_split (t := 202) rfl (fun g10 => ?_) (fun g10 => ?_)
                    ·
                      skip
                      refine rl_val (gw_some rfl rfl g10) (ov_move rfl) rfl ?_
                      refine rl_val (gw_some rfl rfl g10) (ov_move rfl) rfl ?_
                      refine rl_val (gw_some rfl rfl g10) (ov_eqb Try.underlying4 rfl rfl) rfl ?_
                      refine rl_val gw_none (ov_pick_t rfl g10 rfl) rfl ?_
                      refine rl_val gw_none (ov_assign rfl) rfl ?_
                      refine rl_nil ?_
                      refine at_then ?_
                      refine ct_ret ?_
                      refine at_ret1 Try.results6 (ro_tmp rfl) (fun w1 hp => ?_)
                      refine ⟨?_, hp.ext0⟩
                      first | rfl | (simp; done)
                    ·
                      exfalso; simp at g10
end Go.Proofs.Ytgnnlgmeagipjaa
