import Derived.Test.YtgnnlgmeagipjaaTn
import Derived.Test.YtgnnlgmeagipjaaJg
import Derived.KernelRfl
set_option linter.unusedVariables false
set_option linter.unusedSimpArgs false
namespace Go.Proofs.Ytgnnlgmeagipjaa
open Go Go.RowKit K
theorem iNearestStays_c (xs : List Road) (st : List Stay) (vxs : Value) (vst : Value) (w : World) (hGxs : ∀ y ∈ xs, GRoad y) (hsxs : SR w 3 vxs xs.length (flat encRoad xs)) (hGst : ∀ y ∈ st, GStay y) (hsst : SR w 3 vst st.length (flat encStay st)) : Calls Try.prog 21 ([vxs, vst]).toArray w (fun e w' => RetSl 3 1 (ints (nsR xs st)) ((nsR xs st).length) (fun s => .tuple #[s, .bool (nsOk xs st)]) w e w') := by
  obtain ⟨axs, capxs, rfl, hcapxs, hmaxxs⟩ := hsxs.slice
  have hlenxs := hsxs.len_le
  obtain ⟨ast, capst, rfl, hcapst, hmaxst⟩ := hsst.slice
  have hlenst := hsst.len_le
  refine calls_ct Try.func21 Try.ntmps21 rfl rfl ?_
  refine ct_seq ?_
  refine ct_reg ?_
  refine rl_val gw_none (ov_assign rfl) rfl ?_
  refine rl_val gw_none (ov_assign rfl) rfl ?_
  refine rl_nil ?_
  refine at_then ?_
  refine ct_seq ?_
  refine ct_seq ?_
  refine ct_reg ?_
  refine rl_val gw_none (ov_move rfl) rfl ?_
  refine rl_callv gw_none goes37 rfl (fun w1 hp => iAreRoads_c xs _ _ (hsxs.ext hp.ext0)) rfl ?_
  refine rl_val gw_none (ov_not rfl) rfl ?_
  refine rl_val gw_none (ov_move rfl) rfl ?_
  refine rl_split (t := 15) rfl (fun g1 => ?_) (fun g1 => ?_)
  ·
    have g1' := g1
    try simp only [Bool.not_eq_true', Bool.not_eq_false', Bool.not_not, decide_eq_true_eq, decide_eq_false_iff_not, beq_iff_eq, beq_eq_false_iff_ne, bne_iff_ne, bne_eq_false_iff_eq, Bool.and_eq_true, Bool.or_eq_true, Bool.and_eq_false_iff, Bool.or_eq_false_iff, inB] at g1'
    refine rl_skip (gw_not rfl rfl g1) rfl ?_
    refine rl_skip (gw_not rfl rfl g1) rfl ?_
    refine rl_skip (gw_not rfl rfl g1) rfl ?_
    refine rl_val gw_none (ov_pick_t rfl g1 rfl) rfl ?_
    refine rl_nil ?_
    refine at_then ?_
    refine ct_true rfl rfl ?_
    refine ct_seq ?_
    refine ct_reg ?_
    refine rl_val gw_none (ov_assign rfl) rfl ?_
    refine rl_val gw_none (ov_assign rfl) rfl ?_
    refine rl_nil ?_
    refine at_then ?_
    refine ct_ret ?_
    refine at_then_ret ?_
    refine at_ret2 Try.results21 (ro_tmp rfl) (ro_tmp rfl) (fun w1 hp => ?_)
    first | (rw [nsR_yes hok2, hok2, ← hI.done hst7 hnb h5]; exact RetSl.own 999 hp rfl hsl) | (have hb : nsOk xs st = false := (by unfold nsOk; rw [show roadsB xs = false by simpa [roadsB] using g1]; first | rfl | simp); rw [nsR_no hb, hb]; first | exact RetSl.nil hp.ext0 | exact RetSl.lit 0 hp rfl rfl (by decide)) | (have hb : nsOk xs st = false := (by unfold nsOk; rw [show staysB st = false by simpa [staysB] using h1]; first | rfl | simp); rw [nsR_no hb, hb]; first | exact RetSl.nil hp.ext0 | exact RetSl.lit 0 hp rfl rfl (by decide))
  ·
    have g1' := g1
    try simp only [Bool.not_eq_true', Bool.not_eq_false', Bool.not_not, decide_eq_true_eq, decide_eq_false_iff_not, beq_iff_eq, beq_eq_false_iff_ne, bne_iff_ne, bne_eq_false_iff_eq, Bool.and_eq_true, Bool.or_eq_true, Bool.and_eq_false_iff, Bool.or_eq_false_iff, inB] at g1'
    refine rl_val (gw_some rfl rfl g1) (ov_move rfl) rfl ?_
    refine rl_callv (gw_some rfl rfl g1) goes25 rfl (fun w1 hp => iAreStays_c st _ _ (hsst.ext hp.ext0)) rfl ?_
    refine rl_val (gw_some rfl rfl g1) (ov_not rfl) rfl ?_
    refine rl_val gw_none (ov_pick_f rfl g1 rfl) rfl ?_
    refine rl_nil ?_
    refine at_then ?_
    first | refine ct_dec rfl (fun h1 => ?_) (fun h1 => ?_) | refine ct_ndec rfl (fun h1 => ?_) (fun h1 => ?_) | refine ct_eq rfl (fun h1 => ?_) (fun h1 => ?_) | refine ct_ne rfl (fun h1 => ?_) (fun h1 => ?_) | refine ct_not rfl (fun h1 => ?_) (fun h1 => ?_) | refine ct_cond rfl (fun h1 => ?_) (fun h1 => ?_)
    ·
      refine ct_seq ?_
      refine ct_reg ?_
      refine rl_val gw_none (ov_assign rfl) rfl ?_
      refine rl_val gw_none (ov_assign rfl) rfl ?_
      refine rl_nil ?_
      refine at_then ?_
      refine ct_ret ?_
      refine at_then_ret ?_
      refine at_ret2 Try.results21 (ro_tmp rfl) (ro_tmp rfl) (fun w1 hp => ?_)
      first | (rw [nsR_yes hok2, hok2, ← hI.done hst7 hnb h5]; exact RetSl.own 999 hp rfl hsl) | (have hb : nsOk xs st = false := (by unfold nsOk; rw [show roadsB xs = false by simpa [roadsB] using g1]; first | rfl | simp); rw [nsR_no hb, hb]; first | exact RetSl.nil hp.ext0 | exact RetSl.lit 0 hp rfl rfl (by decide)) | (have hb : nsOk xs st = false := (by unfold nsOk; rw [show staysB st = false by simpa [staysB] using h1]; first | rfl | simp); rw [nsR_no hb, hb]; first | exact RetSl.nil hp.ext0 | exact RetSl.lit 0 hp rfl rfl (by decide))
    ·
      have hrB : roadsB xs = true := by simpa [roadsB] using g1
      have hR := roads_ok hrB
      have hok := hR.1
      have hwl := ways_len (-1) xs
      have hsB : staysB st = true := by simpa [staysB] using h1
      have hst7 : st.length ≤ 7 := listB_len hsB
      have hok2 : nsOk xs st = true := by unfold nsOk; rw [hrB, hsB]; rfl
      refine ct_skip ?_
      refine at_then ?_
      refine ct_seq ?_
      refine ct_reg ?_
      refine rl_val gw_none (ov_move rfl) rfl ?_
      refine rl_callv gw_none goes47 rfl (fun w1 hp => waysOf_c xs (-1) _ _ (by unfold In64; omega) hok (hsxs.ext hp.ext0)) rfl ?_
      refine rl_alloc ze72 rfl (fun N1 => ?_)
      refine rl_store [] sz72 rfl rfl ((aggSize _).trans hwl) (ints_cell _) rfl (by simp) ?_
      refine rl_mem (fun _ hq => hq.cong (congrArg (fun x => (_, _, x) :: _) (putAll _))) ?_
      refine rl_nil ?_
      refine at_then ?_
      refine ct_seq ?_
      refine ct_reg ?_
      refine rl_val gw_none (ov_assign rfl) rfl ?_
      refine rl_nil ?_
      refine at_then ?_
      refine ct_seq ?_
      refine ct_reg ?_
      refine rl_val gw_none (ov_assign rfl) rfl ?_
      refine rl_nil ?_
      refine at_then ?_
      refine ct_block ?_
      refine ct_loopR (ι := Nat × Option Nat × Nat × List Value × List Int × Int) (fun p0 => [(7, sv p0.2.1 p0.2.2.2.2.1.length p0.2.2.1), (8, .int .i64 p0.2.2.2.2.2)]) [(1, _), (6, _)] (fun p0 => (p0.2.1, 3, ints p0.2.2.2.2.1 ++ p0.2.2.2.1) :: _) (fun p0 => NsI (ways (-1) xs) st p0.1 p0.2.2.2.2.1 p0.2.2.2.2.2 ∧ Sl 1 p0.2.1 p0.2.2.2.2.1.length p0.2.2.1 (ints p0.2.2.2.2.1) p0.2.2.2.1 ∧ 0 ≤ p0.2.2.2.2.2 ∧ p0.2.2.2.2.2 ≤ 7) (fun p0 => st.length - p0.1) ((0, none, 0, [], [], 0)) (Sub.cons rfl (Sub.cons rfl Sub.nil)) (fun _ hq => hq.nil 3) (by dsimp only; (repeat' (first | exact Sub.nil | refine Sub.cons ?_ ?_)); all_goals (first | rfl | exact lkInt rfl (by omega))) ⟨NsI.zero _ _, Sl.nil0 _, Int.le_refl 0, by decide⟩ (fun p0 hp0 => ?_)
      obtain ⟨k, bo, cap, pad, out, t⟩ := p0
      obtain ⟨hI, hsl, ht0, ht7⟩ := hp0
      dsimp only at hI hsl ht0 ht7
      try dsimp only
      have hkl := hI.le
      have hol := hI.len
      refine ct_block ?_
      refine ct_seq ?_
      refine ct_reg ?_
      refine rl_val gw_none (ov_assign rfl) rfl ?_
      refine rl_nil ?_
      refine at_then ?_
      refine ct_seq ?_
      refine ct_seq ?_
      refine ct_reg ?_
      refine rl_val gw_none (ov_move rfl) rfl ?_
      refine rl_val gw_none (ov_len Try.underlying30 rfl) rfl ?_
      refine rl_val gw_none (ov_move rfl) rfl ?_
      refine rl_nil ?_
      refine at_then ?_
      refine ct_block ?_
      refine ct_loopR (ι := Nat × Int) (fun q => [(9, .int .i64 q.2), (24, .int .i64 q.1)]) [(1, _), (6, _), (7, _), (8, _), (22, _), (23, _)] (fun _ => _) (fun q => q.1 ≤ st.length ∧ q.2 = nbest (nbF (ways (-1) xs) st t) out q.1) (fun q => st.length - q.1) ((0, -1)) (Sub.cons rfl (Sub.cons rfl (Sub.cons rfl (Sub.cons rfl (Sub.cons rfl (Sub.cons rfl Sub.nil)))))) (fun _ hq => hq) (by (repeat' (first | exact Sub.nil | refine Sub.cons ?_ ?_)); all_goals (first | rfl | exact lkInt rfl (by omega))) ⟨Nat.zero_le _, rfl⟩ (fun q hq0 => ?_)
      obtain ⟨j, b⟩ := q
      obtain ⟨hj, hnb⟩ := hq0
      dsimp only at hj hnb
      try dsimp only
      refine ct_seq ?_
      refine ct_reg ?_
      refine rl_val gw_none (ov_lss rfl rfl) rfl ?_
      refine rl_nil ?_
      refine at_then ?_
      refine ct_seq ?_
      first | refine ct_dec rfl (fun h2 => ?_) (fun h2 => ?_) | refine ct_ndec rfl (fun h2 => ?_) (fun h2 => ?_) | refine ct_eq rfl (fun h2 => ?_) (fun h2 => ?_) | refine ct_ne rfl (fun h2 => ?_) (fun h2 => ?_) | refine ct_not rfl (fun h2 => ?_) (fun h2 => ?_) | refine ct_cond rfl (fun h2 => ?_) (fun h2 => ?_)
      ·
        have hj2 : j < st.length := by first | omega | (dsimp only at *; omega)
        obtain ⟨b2, o2, rfl, hel2⟩ := hsst.elem encStay_len (by omega) hj2
        have hx := getLt hj2
        generalize st[j] = x at *
        have hcx := hel2 _ x hx
        obtain ⟨c0, c1, c2, _⟩ := hel2 _ x hx
        have hxb := stay_at hsB hx
        have hat8 : t.toNat < 8 := by omega
        have hxt8 : x.town.toNat < 8 := by omega
        have hgb := ways_bd (wo := -1) hR hat8 hxt8
        have hv := g8At hwl hat8 hxt8
        have hF := nbF_eq (m := ways (-1) xs) (t := t) hx
        have hbb := nbest_bd (nbF (ways (-1) xs) st t) out j
        refine ct_skip ?_
        refine at_then ?_
        refine ct_seq ?_
        refine ct_block ?_
        refine ct_seq ?_
        refine ct_reg ?_
        refine rl_val gw_none (ov_move rfl) rfl ?_
        first | refine rl_val gw_none (ov_ix Try.underlying30 sz44 rfl rfl _ rfl (by omega)) rfl ?_ | refine rl_val gw_none (ov_ix Try.underlying30 sz44 rfl rfl (t.toNat) (by omega) (by omega)) rfl ?_ | refine rl_val gw_none (ov_ix Try.underlying30 sz44 rfl rfl (x.town.toNat) (by omega) (by omega)) rfl ?_ | refine rl_val gw_none (ov_ix Try.underlying30 sz44 rfl rfl (y.town.toNat) (by omega) (by omega)) rfl ?_ | refine rl_val gw_none (ov_ix Try.underlying30 sz44 rfl rfl (b.toNat) (by omega) (by omega)) rfl ?_ | refine rl_val gw_none (ov_ix Try.underlying30 sz44 rfl rfl (j) (by omega) (by omega)) rfl ?_
        first | refine rl_val gw_none (ov_loadaw ag44 rfl rfl (by assumption)) rfl ?_ | refine rl_val gw_none (ov_loadall 0 ag44 rfl rfl rfl) rfl ?_ | refine rl_val gw_none (ov_loadall 1 ag44 rfl rfl rfl) rfl ?_ | refine rl_val gw_none (ov_loadall 2 ag44 rfl rfl rfl) rfl ?_ | refine rl_val gw_none (ov_loadall 3 ag44 rfl rfl rfl) rfl ?_
        refine rl_alloc ze44 rfl (fun N2 => ?_)
        refine rl_val gw_none (ov_assign rfl) rfl ?_
        refine rl_store [] sz44 rfl rfl rfl rfl rfl (Nat.le_of_ble_eq_true rfl) ?_
        refine rl_nil ?_
        refine at_then ?_
        refine ct_seq ?_
        refine ct_seq ?_
        refine ct_dr 12 (by kernel_rfl) (by kernel_rfl) ?_
        refine ql_val gw_none (ov_move rfl) rfl ?_
        refine ql_val gw_none (ov_move rfl) rfl ?_
        refine ql_callv gw_none goes61 rfl (fun w1 hp => has_c out (j : Int) _ _ (hp.slsr 1 rfl hsl)) rfl ?_
        refine ql_val gw_none (ov_move rfl) rfl ?_
        refine ql_split (t := 32) rfl (fun g2 => ?_) (fun g2 => ?_)
        ·
          have g2' := g2
          try simp only [Bool.not_eq_true', Bool.not_eq_false', Bool.not_not, decide_eq_true_eq, decide_eq_false_iff_not, beq_iff_eq, beq_eq_false_iff_ne, bne_iff_ne, bne_eq_false_iff_eq, Bool.and_eq_true, Bool.or_eq_true, Bool.and_eq_false_iff, Bool.or_eq_false_iff, inB] at g2'
          refine ql_skip (gw_not rfl rfl g2) rfl ?_
          refine ql_skip (gw_not rfl rfl g2) rfl ?_
          refine ql_skip (gw_not rfl rfl g2) rfl ?_
          refine ql_skip (gw_not rfl rfl g2) rfl ?_
          refine ql_skip (gw_not rfl rfl g2) rfl ?_
          refine ql_skip (gw_not rfl rfl g2) rfl ?_
          refine ql_skip (gw_not rfl rfl g2) rfl ?_
          refine ql_val gw_none (ov_pick_t rfl g2 rfl) rfl ?_
          refine ql_nil ?_
          refine rl_nil ?_
          refine at_then ?_
          refine ct_true rfl rfl ?_
          refine ct_exit ?_
          refine at_then_exit ?_
          refine at_block_hit ?_
          refine at_then ?_
          refine ct_reg ?_
          refine rl_val gw_none (ov_add rfl rfl (by omega)) rfl ?_
          refine rl_val gw_none (ov_move rfl) rfl ?_
          refine rl_nil ?_
          have hnn := nbest_no hnb (by first | (left; simpa using g2) | (right; left; rw [hF]; omega) | (right; right; exact ⟨hb0, by rw [hF, hFy]; omega⟩))
          exact at_backR (j + 1, b) ⟨hj2, hnn⟩ (by first | omega | (dsimp only at *; omega)) (by (repeat' (first | exact Sub.nil | refine Sub.cons ?_ ?_)); all_goals (first | rfl | exact lkInt rfl (by omega))) (Sub.cons rfl (Sub.cons rfl (Sub.cons rfl (Sub.cons rfl (Sub.cons rfl (Sub.cons rfl Sub.nil)))))) (fun _ hq => hq.drop)
        ·
          have g2' := g2
          try simp only [Bool.not_eq_true', Bool.not_eq_false', Bool.not_not, decide_eq_true_eq, decide_eq_false_iff_not, beq_iff_eq, beq_eq_false_iff_ne, bne_iff_ne, bne_eq_false_iff_eq, Bool.and_eq_true, Bool.or_eq_true, Bool.and_eq_false_iff, Bool.or_eq_false_iff, inB] at g2'
          refine ql_val (gw_some rfl rfl g2) (ov_move rfl) rfl ?_
          refine ql_val (gw_some rfl rfl g2) (ov_field fo44_0 rfl) rfl ?_
          first | refine ql_val (gw_some rfl rfl g2) (ov_load 0 sc3 rfl rfl rfl) rfl ?_ | refine ql_val (gw_some rfl rfl g2) (ov_load 0 sc3 rfl rfl (by assumption)) rfl ?_
          first | refine ql_val (gw_some rfl rfl g2) (ov_ixa Try.underlying72 sz71 rfl rfl _ rfl (by omega)) rfl ?_ | refine ql_val (gw_some rfl rfl g2) (ov_ixa Try.underlying72 sz71 rfl rfl (t.toNat) (by omega) (by omega)) rfl ?_ | refine ql_val (gw_some rfl rfl g2) (ov_ixa Try.underlying72 sz71 rfl rfl (x.town.toNat) (by omega) (by omega)) rfl ?_ | refine ql_val (gw_some rfl rfl g2) (ov_ixa Try.underlying72 sz71 rfl rfl (y.town.toNat) (by omega) (by omega)) rfl ?_ | refine ql_val (gw_some rfl rfl g2) (ov_ixa Try.underlying72 sz71 rfl rfl (b.toNat) (by omega) (by omega)) rfl ?_ | refine ql_val (gw_some rfl rfl g2) (ov_ixa Try.underlying72 sz71 rfl rfl (j) (by omega) (by omega)) rfl ?_
          first | refine ql_val (gw_some rfl rfl g2) (ov_ixa Try.underlying71 sz3 rfl rfl _ rfl (by omega)) rfl ?_ | refine ql_val (gw_some rfl rfl g2) (ov_ixa Try.underlying71 sz3 rfl rfl (t.toNat) (by omega) (by omega)) rfl ?_ | refine ql_val (gw_some rfl rfl g2) (ov_ixa Try.underlying71 sz3 rfl rfl (x.town.toNat) (by omega) (by omega)) rfl ?_ | refine ql_val (gw_some rfl rfl g2) (ov_ixa Try.underlying71 sz3 rfl rfl (y.town.toNat) (by omega) (by omega)) rfl ?_ | refine ql_val (gw_some rfl rfl g2) (ov_ixa Try.underlying71 sz3 rfl rfl (b.toNat) (by omega) (by omega)) rfl ?_ | refine ql_val (gw_some rfl rfl g2) (ov_ixa Try.underlying71 sz3 rfl rfl (j) (by omega) (by omega)) rfl ?_
          first | refine ql_val (gw_some rfl rfl g2) (ov_load 2 sc3 rfl rfl rfl) rfl ?_ | refine ql_val (gw_some rfl rfl g2) (ov_load 2 sc3 rfl rfl (by assumption)) rfl ?_
          refine ql_val (gw_some rfl rfl g2) (ov_geq rfl rfl) rfl ?_
          refine ql_val gw_none (ov_pick_f rfl g2 rfl) rfl ?_
          refine ql_nil ?_
          refine rl_nil ?_
          refine at_then ?_
          first | refine ct_dec rfl (fun h3 => ?_) (fun h3 => ?_) | refine ct_ndec rfl (fun h3 => ?_) (fun h3 => ?_) | refine ct_eq rfl (fun h3 => ?_) (fun h3 => ?_) | refine ct_ne rfl (fun h3 => ?_) (fun h3 => ?_) | refine ct_not rfl (fun h3 => ?_) (fun h3 => ?_) | refine ct_cond rfl (fun h3 => ?_) (fun h3 => ?_)
          ·
            refine ct_exit ?_
            refine at_then_exit ?_
            refine at_block_hit ?_
            refine at_then ?_
            refine ct_reg ?_
            refine rl_val gw_none (ov_add rfl rfl (by omega)) rfl ?_
            refine rl_val gw_none (ov_move rfl) rfl ?_
            refine rl_nil ?_
            have hnn := nbest_no hnb (by first | (left; simpa using g2) | (right; left; rw [hF]; omega) | (right; right; exact ⟨hb0, by rw [hF, hFy]; omega⟩))
            exact at_backR (j + 1, b) ⟨hj2, hnn⟩ (by first | omega | (dsimp only at *; omega)) (by (repeat' (first | exact Sub.nil | refine Sub.cons ?_ ?_)); all_goals (first | rfl | exact lkInt rfl (by omega))) (Sub.cons rfl (Sub.cons rfl (Sub.cons rfl (Sub.cons rfl (Sub.cons rfl (Sub.cons rfl Sub.nil)))))) (fun _ hq => hq.drop)
          ·
            refine ct_skip ?_
            refine at_then ?_
            refine ct_seq ?_
            refine ct_dr 20 (by kernel_rfl) (by kernel_rfl) ?_
            refine ql_val gw_none (ov_move rfl) rfl ?_
            refine ql_val gw_none (ov_lss rfl rfl) rfl ?_
            refine ql_val gw_none (ov_move rfl) rfl ?_
            refine ql_split (t := 43) rfl (fun g3 => ?_) (fun g3 => ?_)
            ·
              have g3' := g3
              try simp only [Bool.not_eq_true', Bool.not_eq_false', Bool.not_not, decide_eq_true_eq, decide_eq_false_iff_not, beq_iff_eq, beq_eq_false_iff_ne, bne_iff_ne, bne_eq_false_iff_eq, Bool.and_eq_true, Bool.or_eq_true, Bool.and_eq_false_iff, Bool.or_eq_false_iff, inB] at g3'
              refine ql_skip (gw_not rfl rfl g3) rfl ?_
              refine ql_skip (gw_not rfl rfl g3) rfl ?_
              refine ql_skip (gw_not rfl rfl g3) rfl ?_
              refine ql_skip (gw_not rfl rfl g3) rfl ?_
              refine ql_skip (gw_not rfl rfl g3) rfl ?_
              refine ql_skip (gw_not rfl rfl g3) rfl ?_
              refine ql_skip (gw_not rfl rfl g3) rfl ?_
              refine ql_skip (gw_not rfl rfl g3) rfl ?_
              refine ql_skip (gw_not rfl rfl g3) rfl ?_
              refine ql_skip (gw_not rfl rfl g3) rfl ?_
              refine ql_skip (gw_not rfl rfl g3) rfl ?_
              refine ql_skip (gw_not rfl rfl g3) rfl ?_
              refine ql_skip (gw_not rfl rfl g3) rfl ?_
              refine ql_skip (gw_not rfl rfl g3) rfl ?_
              refine ql_skip (gw_not rfl rfl g3) rfl ?_
              refine ql_skip (gw_not rfl rfl g3) rfl ?_
              refine ql_val gw_none (ov_pick_t rfl g3 rfl) rfl ?_
              refine ql_nil ?_
              refine rl_nil ?_
              refine at_then ?_
              refine ct_true rfl rfl ?_
              refine ct_reg ?_
              refine rl_val gw_none (ov_move rfl) rfl ?_
              refine rl_val gw_none (ov_assign rfl) rfl ?_
              refine rl_nil ?_
              refine at_block ?_
              refine at_then ?_
              refine ct_reg ?_
              refine rl_val gw_none (ov_add rfl rfl (by omega)) rfl ?_
              refine rl_val gw_none (ov_move rfl) rfl ?_
              refine rl_nil ?_
              have hnn := nbest_yes hnb (by simpa using g2) (by omega) (by first | (left; simpa using g3) | (left; simpa using h4) | (right; rw [hF, hFy]; omega))
              exact at_backR (j + 1, (j : Int)) ⟨hj2, hnn⟩ (by first | omega | (dsimp only at *; omega)) (by (repeat' (first | exact Sub.nil | refine Sub.cons ?_ ?_)); all_goals (first | rfl | exact lkInt rfl (by omega))) (Sub.cons rfl (Sub.cons rfl (Sub.cons rfl (Sub.cons rfl (Sub.cons rfl (Sub.cons rfl Sub.nil)))))) (fun _ hq => hq.drop)
            ·
              have hb0 : 0 ≤ b := by first | omega | (simp at *; omega)
              have hbn : b.toNat < st.length := by have := nbest_bd (nbF (ways (-1) xs) st t) out j; first | omega | (dsimp only at *; omega)
              obtain ⟨b3, o3, hq3, hel3⟩ := hsst.elem encStay_len (by omega) hbn
              have hy := getLt hbn
              generalize st[b.toNat] = y at *
              obtain ⟨d0, d1, d2, _⟩ := hel3 _ y hy
              have hyb := stay_at hsB hy
              have hat8 : t.toNat < 8 := by omega
              have hyt8 : y.town.toNat < 8 := by omega
              have hgy := ways_bd (wo := -1) hR hat8 hyt8
              have hvy := g8At hwl hat8 hyt8
              have hFy := nbF_eq (m := ways (-1) xs) (t := t) hy
              have htw := tw_eq hy
              simp only [Option.some.injEq, Addr.mk.injEq] at hq3
              obtain ⟨rfl, rfl, _⟩ := hq3
              refine ql_val (gw_some rfl rfl g3) (ov_move rfl) rfl ?_
              refine ql_val (gw_some rfl rfl g3) (ov_field fo44_0 rfl) rfl ?_
              first | refine ql_val (gw_some rfl rfl g3) (ov_load 0 sc3 rfl rfl rfl) rfl ?_ | refine ql_val (gw_some rfl rfl g3) (ov_load 0 sc3 rfl rfl (by assumption)) rfl ?_
              first | refine ql_val (gw_some rfl rfl g3) (ov_ixa Try.underlying72 sz71 rfl rfl _ rfl (by omega)) rfl ?_ | refine ql_val (gw_some rfl rfl g3) (ov_ixa Try.underlying72 sz71 rfl rfl (t.toNat) (by omega) (by omega)) rfl ?_ | refine ql_val (gw_some rfl rfl g3) (ov_ixa Try.underlying72 sz71 rfl rfl (x.town.toNat) (by omega) (by omega)) rfl ?_ | refine ql_val (gw_some rfl rfl g3) (ov_ixa Try.underlying72 sz71 rfl rfl (y.town.toNat) (by omega) (by omega)) rfl ?_ | refine ql_val (gw_some rfl rfl g3) (ov_ixa Try.underlying72 sz71 rfl rfl (b.toNat) (by omega) (by omega)) rfl ?_ | refine ql_val (gw_some rfl rfl g3) (ov_ixa Try.underlying72 sz71 rfl rfl (j) (by omega) (by omega)) rfl ?_
              first | refine ql_val (gw_some rfl rfl g3) (ov_ixa Try.underlying71 sz3 rfl rfl _ rfl (by omega)) rfl ?_ | refine ql_val (gw_some rfl rfl g3) (ov_ixa Try.underlying71 sz3 rfl rfl (t.toNat) (by omega) (by omega)) rfl ?_ | refine ql_val (gw_some rfl rfl g3) (ov_ixa Try.underlying71 sz3 rfl rfl (x.town.toNat) (by omega) (by omega)) rfl ?_ | refine ql_val (gw_some rfl rfl g3) (ov_ixa Try.underlying71 sz3 rfl rfl (y.town.toNat) (by omega) (by omega)) rfl ?_ | refine ql_val (gw_some rfl rfl g3) (ov_ixa Try.underlying71 sz3 rfl rfl (b.toNat) (by omega) (by omega)) rfl ?_ | refine ql_val (gw_some rfl rfl g3) (ov_ixa Try.underlying71 sz3 rfl rfl (j) (by omega) (by omega)) rfl ?_
              first | refine ql_val (gw_some rfl rfl g3) (ov_load 2 sc3 rfl rfl rfl) rfl ?_ | refine ql_val (gw_some rfl rfl g3) (ov_load 2 sc3 rfl rfl (by assumption)) rfl ?_
              refine ql_val (gw_some rfl rfl g3) (ov_move rfl) rfl ?_
              refine ql_val (gw_some rfl rfl g3) (ov_move rfl) rfl ?_
              refine ql_val (gw_some rfl rfl g3) (ov_move rfl) rfl ?_
              first | refine ql_val (gw_some rfl rfl g3) (ov_ix Try.underlying30 sz44 rfl rfl _ rfl (by omega)) rfl ?_ | refine ql_val (gw_some rfl rfl g3) (ov_ix Try.underlying30 sz44 rfl rfl (t.toNat) (by omega) (by omega)) rfl ?_ | refine ql_val (gw_some rfl rfl g3) (ov_ix Try.underlying30 sz44 rfl rfl (x.town.toNat) (by omega) (by omega)) rfl ?_ | refine ql_val (gw_some rfl rfl g3) (ov_ix Try.underlying30 sz44 rfl rfl (y.town.toNat) (by omega) (by omega)) rfl ?_ | refine ql_val (gw_some rfl rfl g3) (ov_ix Try.underlying30 sz44 rfl rfl (b.toNat) (by omega) (by omega)) rfl ?_ | refine ql_val (gw_some rfl rfl g3) (ov_ix Try.underlying30 sz44 rfl rfl (j) (by omega) (by omega)) rfl ?_
              refine ql_val (gw_some rfl rfl g3) (ov_field fo44_0 rfl) rfl ?_
              first | refine ql_val (gw_some rfl rfl g3) (ov_load 0 sc3 rfl rfl rfl) rfl ?_ | refine ql_val (gw_some rfl rfl g3) (ov_load 1 sc3 rfl rfl rfl) rfl ?_ | refine ql_val (gw_some rfl rfl g3) (ov_load 2 sc3 rfl rfl rfl) rfl ?_ | refine ql_val (gw_some rfl rfl g3) (ov_load 3 sc3 rfl rfl rfl) rfl ?_ | refine ql_val (gw_some rfl rfl g3) (ov_loadw sc3 rfl (by assumption)) rfl ?_ | refine ql_val (gw_some rfl rfl g3) (ov_load 0 sc3 rfl rfl (by assumption)) rfl ?_ | refine ql_val (gw_some rfl rfl g3) (ov_load 1 sc3 rfl rfl (by assumption)) rfl ?_ | refine ql_val (gw_some rfl rfl g3) (ov_load 2 sc3 rfl rfl (by assumption)) rfl ?_ | refine ql_val (gw_some rfl rfl g3) (ov_load 3 sc3 rfl rfl (by assumption)) rfl ?_
              first | refine ql_val (gw_some rfl rfl g3) (ov_ixa Try.underlying72 sz71 rfl rfl _ rfl (by omega)) rfl ?_ | refine ql_val (gw_some rfl rfl g3) (ov_ixa Try.underlying72 sz71 rfl rfl (t.toNat) (by omega) (by omega)) rfl ?_ | refine ql_val (gw_some rfl rfl g3) (ov_ixa Try.underlying72 sz71 rfl rfl (x.town.toNat) (by omega) (by omega)) rfl ?_ | refine ql_val (gw_some rfl rfl g3) (ov_ixa Try.underlying72 sz71 rfl rfl (y.town.toNat) (by omega) (by omega)) rfl ?_ | refine ql_val (gw_some rfl rfl g3) (ov_ixa Try.underlying72 sz71 rfl rfl (b.toNat) (by omega) (by omega)) rfl ?_ | refine ql_val (gw_some rfl rfl g3) (ov_ixa Try.underlying72 sz71 rfl rfl (j) (by omega) (by omega)) rfl ?_
              first | refine ql_val (gw_some rfl rfl g3) (ov_ixa Try.underlying71 sz3 rfl rfl _ rfl (by omega)) rfl ?_ | refine ql_val (gw_some rfl rfl g3) (ov_ixa Try.underlying71 sz3 rfl rfl (t.toNat) (by omega) (by omega)) rfl ?_ | refine ql_val (gw_some rfl rfl g3) (ov_ixa Try.underlying71 sz3 rfl rfl (x.town.toNat) (by omega) (by omega)) rfl ?_ | refine ql_val (gw_some rfl rfl g3) (ov_ixa Try.underlying71 sz3 rfl rfl (y.town.toNat) (by omega) (by omega)) rfl ?_ | refine ql_val (gw_some rfl rfl g3) (ov_ixa Try.underlying71 sz3 rfl rfl (b.toNat) (by omega) (by omega)) rfl ?_ | refine ql_val (gw_some rfl rfl g3) (ov_ixa Try.underlying71 sz3 rfl rfl (j) (by omega) (by omega)) rfl ?_
              first | refine ql_val (gw_some rfl rfl g3) (ov_load 2 sc3 rfl rfl rfl) rfl ?_ | refine ql_val (gw_some rfl rfl g3) (ov_load 2 sc3 rfl rfl (by assumption)) rfl ?_
              refine ql_val (gw_some rfl rfl g3) (ov_lss rfl rfl) rfl ?_
              refine ql_val gw_none (ov_pick_f rfl g3 rfl) rfl ?_
              refine ql_nil ?_
              refine rl_nil ?_
              refine at_then ?_
              first | refine ct_dec rfl (fun h4 => ?_) (fun h4 => ?_) | refine ct_ndec rfl (fun h4 => ?_) (fun h4 => ?_) | refine ct_eq rfl (fun h4 => ?_) (fun h4 => ?_) | refine ct_ne rfl (fun h4 => ?_) (fun h4 => ?_) | refine ct_not rfl (fun h4 => ?_) (fun h4 => ?_) | refine ct_cond rfl (fun h4 => ?_) (fun h4 => ?_)
              ·
                refine ct_reg ?_
                refine rl_val gw_none (ov_move rfl) rfl ?_
                refine rl_val gw_none (ov_assign rfl) rfl ?_
                refine rl_nil ?_
                refine at_block ?_
                refine at_then ?_
                refine ct_reg ?_
                refine rl_val gw_none (ov_add rfl rfl (by omega)) rfl ?_
                refine rl_val gw_none (ov_move rfl) rfl ?_
                refine rl_nil ?_
                have hnn := nbest_yes hnb (by simpa using g2) (by omega) (by first | (left; simpa using g3) | (left; simpa using h4) | (right; rw [hF, hFy]; omega))
                exact at_backR (j + 1, (j : Int)) ⟨hj2, hnn⟩ (by first | omega | (dsimp only at *; omega)) (by (repeat' (first | exact Sub.nil | refine Sub.cons ?_ ?_)); all_goals (first | rfl | exact lkInt rfl (by omega))) (Sub.cons rfl (Sub.cons rfl (Sub.cons rfl (Sub.cons rfl (Sub.cons rfl (Sub.cons rfl Sub.nil)))))) (fun _ hq => hq.drop)
              ·
                refine ct_skip ?_
                refine at_block ?_
                refine at_then ?_
                refine ct_reg ?_
                refine rl_val gw_none (ov_add rfl rfl (by omega)) rfl ?_
                refine rl_val gw_none (ov_move rfl) rfl ?_
                refine rl_nil ?_
                have hnn := nbest_no hnb (by first | (left; simpa using g2) | (right; left; rw [hF]; omega) | (right; right; exact ⟨hb0, by rw [hF, hFy]; omega⟩))
                exact at_backR (j + 1, b) ⟨hj2, hnn⟩ (by first | omega | (dsimp only at *; omega)) (by (repeat' (first | exact Sub.nil | refine Sub.cons ?_ ?_)); all_goals (first | rfl | exact lkInt rfl (by omega))) (Sub.cons rfl (Sub.cons rfl (Sub.cons rfl (Sub.cons rfl (Sub.cons rfl (Sub.cons rfl Sub.nil)))))) (fun _ hq => hq.drop)
      ·
        have hje : j = st.length := by first | omega | (dsimp only at *; omega)
        subst hje
        refine ct_exit ?_
        refine at_then_exit ?_
        refine at_then_exit ?_
        refine at_block_hit ?_
        refine at_then ?_
        refine ct_seq ?_
        refine ct_seq ?_
        refine ct_reg ?_
        refine rl_val gw_none (ov_move rfl) rfl ?_
        refine rl_val gw_none (ov_lss rfl rfl) rfl ?_
        refine rl_nil ?_
        refine at_then ?_
        first | refine ct_dec rfl (fun h5 => ?_) (fun h5 => ?_) | refine ct_ndec rfl (fun h5 => ?_) (fun h5 => ?_) | refine ct_eq rfl (fun h5 => ?_) (fun h5 => ?_) | refine ct_ne rfl (fun h5 => ?_) (fun h5 => ?_) | refine ct_not rfl (fun h5 => ?_) (fun h5 => ?_) | refine ct_cond rfl (fun h5 => ?_) (fun h5 => ?_)
        ·
          refine ct_seq ?_
          refine ct_reg ?_
          refine rl_val gw_none (ov_move rfl) rfl ?_
          refine rl_val gw_none (ov_assign rfl) rfl ?_
          refine rl_val gw_none (ov_assign rfl) rfl ?_
          refine rl_nil ?_
          refine at_then ?_
          refine ct_ret ?_
          refine at_then_ret ?_
          refine at_block_ret ?_
          refine at_then_ret ?_
          refine at_block_ret ?_
          refine at_ret2 Try.results21 (ro_tmp rfl) (ro_tmp rfl) (fun w1 hp => ?_)
          first | (rw [nsR_yes hok2, hok2, ← hI.done hst7 hnb h5]; exact RetSl.own 0 hp rfl hsl) | (have hb : nsOk xs st = false := (by unfold nsOk; rw [show roadsB xs = false by simpa [roadsB] using g1]; first | rfl | simp); rw [nsR_no hb, hb]; first | exact RetSl.nil hp.ext0 | exact RetSl.lit 0 hp rfl rfl (by decide)) | (have hb : nsOk xs st = false := (by unfold nsOk; rw [show staysB st = false by simpa [staysB] using h1]; first | rfl | simp); rw [nsR_no hb, hb]; first | exact RetSl.nil hp.ext0 | exact RetSl.lit 0 hp rfl rfl (by decide))
        ·
          have hb0 : 0 ≤ b := by first | omega | (simp at *; omega)
          have hbn : b.toNat < st.length := by have := nbest_bd (nbF (ways (-1) xs) st t) out st.length; first | omega | (dsimp only at *; omega)
          obtain ⟨b3, o3, hq3, hel3⟩ := hsst.elem encStay_len (by omega) hbn
          have hy := getLt hbn
          generalize st[b.toNat] = y at *
          obtain ⟨d0, d1, d2, _⟩ := hel3 _ y hy
          have hyb := stay_at hsB hy
          have hat8 : t.toNat < 8 := by omega
          have hyt8 : y.town.toNat < 8 := by omega
          have hgy := ways_bd (wo := -1) hR hat8 hyt8
          have hvy := g8At hwl hat8 hyt8
          have hFy := nbF_eq (m := ways (-1) xs) (t := t) hy
          have htw := tw_eq hy
          subst hq3
          refine ct_skip ?_
          refine at_then ?_
          refine ct_seq ?_
          refine ct_reg ?_
          refine rl_val gw_none (ov_move rfl) rfl ?_
          refine rl_val gw_none (ov_move rfl) rfl ?_
          refine rl_bslice Try.underlying39 ze3 sz3 rfl rfl rfl rfl rfl rfl (fun N3 => ?_)
          refine rl_appT (ints) (ints_append) [_] (acc := out) Try.underlying39 ze3 sz3 rfl rfl by3 rfl rfl rfl hsl ([b]) rfl (fun w1 hp => hp.sr1 0 rfl rfl (by decide)) (ints_one _) (by unfold maxLen; omega) (by omega) rfl (fun boq1 capq1 padq1 hsq1 => ?_)
          refine rl_val gw_none (ov_assign rfl) rfl ?_
          refine rl_nil ?_
          refine at_then ?_
          refine ct_reg ?_
          refine rl_val gw_none (ov_move rfl) rfl ?_
          refine rl_val gw_none (ov_move rfl) rfl ?_
          first | refine rl_val gw_none (ov_ix Try.underlying30 sz44 rfl rfl _ rfl (by omega)) rfl ?_ | refine rl_val gw_none (ov_ix Try.underlying30 sz44 rfl rfl (t.toNat) (by omega) (by omega)) rfl ?_ | refine rl_val gw_none (ov_ix Try.underlying30 sz44 rfl rfl (x.town.toNat) (by omega) (by omega)) rfl ?_ | refine rl_val gw_none (ov_ix Try.underlying30 sz44 rfl rfl (y.town.toNat) (by omega) (by omega)) rfl ?_ | refine rl_val gw_none (ov_ix Try.underlying30 sz44 rfl rfl (b.toNat) (by omega) (by omega)) rfl ?_ | refine rl_val gw_none (ov_ix Try.underlying30 sz44 rfl rfl (j) (by omega) (by omega)) rfl ?_
          refine rl_val gw_none (ov_field fo44_0 rfl) rfl ?_
          first | refine rl_val gw_none (ov_load 0 sc3 rfl rfl rfl) rfl ?_ | refine rl_val gw_none (ov_load 1 sc3 rfl rfl rfl) rfl ?_ | refine rl_val gw_none (ov_load 2 sc3 rfl rfl rfl) rfl ?_ | refine rl_val gw_none (ov_load 3 sc3 rfl rfl rfl) rfl ?_ | refine rl_val gw_none (ov_loadw sc3 rfl (by assumption)) rfl ?_ | refine rl_val gw_none (ov_load 0 sc3 rfl rfl (by assumption)) rfl ?_ | refine rl_val gw_none (ov_load 1 sc3 rfl rfl (by assumption)) rfl ?_ | refine rl_val gw_none (ov_load 2 sc3 rfl rfl (by assumption)) rfl ?_ | refine rl_val gw_none (ov_load 3 sc3 rfl rfl (by assumption)) rfl ?_
          refine rl_val gw_none (ov_assign rfl) rfl ?_
          refine rl_nil ?_
          refine at_block ?_
          have hIn := hI.next hnb hb0
          have hle := hIn.le
          have htb := tw_bd hsB b
          exact at_backR (k + 1, boq1, capq1, padq1, out ++ [b], tw st b) ⟨hIn, hsq1, htb.1, htb.2⟩ (by dsimp only; omega) (by dsimp only; (repeat' (first | exact Sub.nil | refine Sub.cons ?_ ?_)); all_goals (first | rfl | exact lkInt rfl (by omega))) (Sub.cons rfl (Sub.cons rfl Sub.nil)) (fun _ hq => hq.drop)
end Go.Proofs.Ytgnnlgmeagipjaa
