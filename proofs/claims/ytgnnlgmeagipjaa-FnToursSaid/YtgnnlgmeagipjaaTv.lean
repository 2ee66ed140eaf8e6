import Derived.Test.YtgnnlgmeagipjaaTo
import Derived.Test.YtgnnlgmeagipjaaJg
import Derived.KernelRfl
set_option linter.unusedVariables false
set_option linter.unusedSimpArgs false
namespace Go.Proofs.Ytgnnlgmeagipjaa
open Go Go.RowKit K
theorem sNearestStays_c (xs : List Road) (st : List Stay) (vxs : Value) (vst : Value) (w : World) (hGxs : ∀ y ∈ xs, GRoad y) (hsxs : SR w 3 vxs xs.length (flat encRoad xs)) (hGst : ∀ y ∈ st, GStay y) (hsst : SR w 3 vst st.length (flat encStay st)) : Calls Try.prog 22 ([vxs, vst]).toArray w (fun e w' => RetSl 3 1 (ints (nsR xs st)) ((nsR xs st).length) (fun s => .tuple #[s, .bool (nsOk xs st)]) w e w') := by
  obtain ⟨axs, capxs, rfl, hcapxs, hmaxxs⟩ := hsxs.slice
  have hlenxs := hsxs.len_le
  obtain ⟨ast, capst, rfl, hcapst, hmaxst⟩ := hsst.slice
  have hlenst := hsst.len_le
  refine calls_ct Try.func22 Try.ntmps22 rfl rfl ?_
  refine ct_seq ?_
  refine ct_reg ?_
  refine rl_val gw_none (ov_assign rfl) rfl ?_
  refine rl_val gw_none (ov_assign rfl) rfl ?_
  refine rl_nil ?_
  refine at_then ?_
  refine ct_seq ?_
  refine ct_reg ?_
  refine rl_bslice Try.underlying39 ze3 sz3 rfl rfl rfl rfl rfl rfl (fun N1 => ?_)
  refine rl_val gw_none (ov_assign rfl) rfl ?_
  refine rl_nil ?_
  refine at_then ?_
  refine ct_seq ?_
  refine ct_seq ?_
  refine ct_reg ?_
  refine rl_val gw_none (ov_move rfl) rfl ?_
  refine rl_callv gw_none goes40 rfl (fun w1 hp => l24Roads_c xs _ _ (hsxs.ext hp.ext0)) rfl ?_
  refine rl_val gw_none (ov_not rfl) rfl ?_
  refine rl_val gw_none (ov_move rfl) rfl ?_
  refine rl_split (t := 17) rfl (fun g1 => ?_) (fun g1 => ?_)
  ·
    have g1' := g1
    try simp only [Bool.not_eq_true', Bool.not_eq_false', Bool.not_not, decide_eq_true_eq, decide_eq_false_iff_not, beq_iff_eq, beq_eq_false_iff_ne, bne_iff_ne, bne_eq_false_iff_eq, Bool.and_eq_true, Bool.or_eq_true, Bool.and_eq_false_iff, Bool.or_eq_false_iff, inB] at g1'
    refine rl_skip (gw_not rfl rfl g1) rfl ?_
    refine rl_skip (gw_not rfl rfl g1) rfl ?_
    refine rl_skip (gw_not rfl rfl g1) rfl ?_
    refine rl_val gw_none (ov_pick_t rfl g1 rfl) rfl ?_
    refine rl_nil ?_
    refine at_then ?_
    refine ct_true rfl rfl ?_
    refine ct_seq ?_
    refine ct_reg ?_
    refine rl_val gw_none (ov_move rfl) rfl ?_
    refine rl_val gw_none (ov_assign rfl) rfl ?_
    refine rl_val gw_none (ov_assign rfl) rfl ?_
    refine rl_nil ?_
    refine at_then ?_
    refine ct_ret ?_
    refine at_then_ret ?_
    refine at_ret2 Try.results22 (ro_tmp rfl) (ro_tmp rfl) (fun w1 hp => ?_)
    first | (rw [nsR_yes hok2, hok2, ← hI.done hst7 rfl (hag (by simpa using h2))]; exact RetSl.own 0 hp rfl hsl) | (have hb : nsOk xs st = false := (by unfold nsOk; rw [show roadsB xs = false by simpa [roadsB] using g1]; first | rfl | simp); rw [nsR_no hb, hb]; first | exact RetSl.nil hp.ext0 | exact RetSl.lit 0 hp rfl rfl (by decide)) | (have hb : nsOk xs st = false := (by unfold nsOk; rw [show staysB st = false by simpa [staysB] using h1]; first | rfl | simp); rw [nsR_no hb, hb]; first | exact RetSl.nil hp.ext0 | exact RetSl.lit 0 hp rfl rfl (by decide))
  ·
    have g1' := g1
    try simp only [Bool.not_eq_true', Bool.not_eq_false', Bool.not_not, decide_eq_true_eq, decide_eq_false_iff_not, beq_iff_eq, beq_eq_false_iff_ne, bne_iff_ne, bne_eq_false_iff_eq, Bool.and_eq_true, Bool.or_eq_true, Bool.and_eq_false_iff, Bool.or_eq_false_iff, inB] at g1'
    refine rl_val (gw_some rfl rfl g1) (ov_move rfl) rfl ?_
    refine rl_callv (gw_some rfl rfl g1) goes41 rfl (fun w1 hp => l24Stays_c st _ _ (hsst.ext hp.ext0)) rfl ?_
    refine rl_val (gw_some rfl rfl g1) (ov_not rfl) rfl ?_
    refine rl_val gw_none (ov_pick_f rfl g1 rfl) rfl ?_
    refine rl_nil ?_
    refine at_then ?_
    first | refine ct_dec rfl (fun h1 => ?_) (fun h1 => ?_) | refine ct_ndec rfl (fun h1 => ?_) (fun h1 => ?_) | refine ct_eq rfl (fun h1 => ?_) (fun h1 => ?_) | refine ct_ne rfl (fun h1 => ?_) (fun h1 => ?_) | refine ct_not rfl (fun h1 => ?_) (fun h1 => ?_) | refine ct_cond rfl (fun h1 => ?_) (fun h1 => ?_)
    ·
      refine ct_seq ?_
      refine ct_reg ?_
      refine rl_val gw_none (ov_move rfl) rfl ?_
      refine rl_val gw_none (ov_assign rfl) rfl ?_
      refine rl_val gw_none (ov_assign rfl) rfl ?_
      refine rl_nil ?_
      refine at_then ?_
      refine ct_ret ?_
      refine at_then_ret ?_
      refine at_ret2 Try.results22 (ro_tmp rfl) (ro_tmp rfl) (fun w1 hp => ?_)
      first | (rw [nsR_yes hok2, hok2, ← hI.done hst7 rfl (hag (by simpa using h2))]; exact RetSl.own 0 hp rfl hsl) | (have hb : nsOk xs st = false := (by unfold nsOk; rw [show roadsB xs = false by simpa [roadsB] using g1]; first | rfl | simp); rw [nsR_no hb, hb]; first | exact RetSl.nil hp.ext0 | exact RetSl.lit 0 hp rfl rfl (by decide)) | (have hb : nsOk xs st = false := (by unfold nsOk; rw [show staysB st = false by simpa [staysB] using h1]; first | rfl | simp); rw [nsR_no hb, hb]; first | exact RetSl.nil hp.ext0 | exact RetSl.lit 0 hp rfl rfl (by decide))
    ·
      have hrB : roadsB xs = true := by simpa [roadsB] using g1
      have hR := roads_ok hrB
      have hok := hR.1
      have hwl := ways_len (-1) xs
      have hsB : staysB st = true := by simpa [staysB] using h1
      have hst7 : st.length ≤ 7 := listB_len hsB
      have hok2 : nsOk xs st = true := by unfold nsOk; rw [hrB, hsB]; rfl
      refine ct_skip ?_
      refine at_then ?_
      refine ct_seq ?_
      refine ct_reg ?_
      refine rl_val gw_none (ov_assign rfl) rfl ?_
      refine rl_nil ?_
      refine at_then ?_
      refine ct_seq ?_
      refine ct_seq ?_
      refine ct_reg ?_
      refine rl_val gw_none (ov_assign rfl) rfl ?_
      refine rl_nil ?_
      refine at_then ?_
      refine ct_block ?_
      refine ct_loopR (ι := Nat × Option Nat × Nat × List Value × List Int × Int × Bool) (fun p0 => [(6, sv p0.2.1 p0.2.2.2.2.1.length p0.2.2.1), (7, .int .i64 p0.2.2.2.2.2.1), (8, .bool p0.2.2.2.2.2.2)]) [(0, _), (1, _), (4, _), (5, _)] (fun p0 => (p0.2.1, 3, ints p0.2.2.2.2.1 ++ p0.2.2.2.1) :: _) (fun p0 => NsI (ways (-1) xs) st p0.1 p0.2.2.2.2.1 p0.2.2.2.2.2.1 ∧ Sl 1 p0.2.1 p0.2.2.2.2.1.length p0.2.2.1 (ints p0.2.2.2.2.1) p0.2.2.2.1 ∧ 0 ≤ p0.2.2.2.2.2.1 ∧ p0.2.2.2.2.2.1 ≤ 7 ∧ (p0.2.2.2.2.2.2 = false → nbest (nbF (ways (-1) xs) st p0.2.2.2.2.2.1) p0.2.2.2.2.1 st.length < 0)) (fun p0 => 2 * (st.length - p0.1) + p0.2.2.2.2.2.2.toNat) ((0, some N1, 0, [], [], 0, true)) (Sub.cons rfl (Sub.cons rfl (Sub.cons rfl (Sub.cons rfl Sub.nil)))) (fun _ hq => hq) (by dsimp only; (repeat' (first | exact Sub.nil | refine Sub.cons ?_ ?_)); all_goals (first | rfl | exact lkInt rfl (by omega))) ⟨NsI.zero _ _, Sl.lit rfl (Nat.zero_le _), Int.le_refl 0, (by show (0 : Int) ≤ 7; decide), fun h => by cases h⟩ (fun p0 hp0 => ?_)
      obtain ⟨k, bo, cap, pad, out, t, again⟩ := p0
      obtain ⟨hI, hsl, ht0, ht7, hag⟩ := hp0
      dsimp only at hI hsl ht0 ht7 hag
      try dsimp only
      have hkl := hI.le
      have hol := hI.len
      refine ct_seq ?_
      refine ct_seq ?_
      refine ct_reg ?_
      refine rl_val gw_none (ov_move rfl) rfl ?_
      refine rl_nil ?_
      refine at_then ?_
      first | refine ct_dec rfl (fun h2 => ?_) (fun h2 => ?_) | refine ct_ndec rfl (fun h2 => ?_) (fun h2 => ?_) | refine ct_eq rfl (fun h2 => ?_) (fun h2 => ?_) | refine ct_ne rfl (fun h2 => ?_) (fun h2 => ?_) | refine ct_not rfl (fun h2 => ?_) (fun h2 => ?_) | refine ct_cond rfl (fun h2 => ?_) (fun h2 => ?_)
      ·
        subst h2
        refine ct_skip ?_
        refine at_then ?_
        refine ct_block ?_
        refine ct_seq ?_
        refine ct_reg ?_
        refine rl_val gw_none (ov_assign rfl) rfl ?_
        refine rl_nil ?_
        refine at_then ?_
        refine ct_seq ?_
        refine ct_reg ?_
        refine rl_val gw_none (ov_assign rfl) rfl ?_
        refine rl_val gw_none (ov_assign rfl) rfl ?_
        refine rl_nil ?_
        refine at_then ?_
        refine ct_seq ?_
        refine ct_reg ?_
        refine rl_val gw_none (ov_move rfl) rfl ?_
        refine rl_val gw_none (ov_move rfl) rfl ?_
        refine rl_callsl (ι := Nat × List Value) (fun i bo => sv bo 8 i.1) (fun i => ints (bfE (-1) xs t.toNat) ++ i.2) (fun i bo => Sl 1 bo 8 i.1 (ints (bfE (-1) xs t.toNat)) i.2) goes62 rfl (fun w1 hp => l24Ways_c xs t (-1) t.toNat _ _ (by unfold In64; omega) (by omega) (by omega) hok (hsxs.ext hp.ext0)) rfl (fun iwy bowy hswy => ?_)
        obtain ⟨bwy, rfl⟩ := slSome hswy (by omega)
        refine rl_val gw_none (ov_assign rfl) rfl ?_
        refine rl_nil ?_
        refine at_then ?_
        refine ct_seq ?_
        refine ct_seq ?_
        refine ct_reg ?_
        refine rl_val gw_none (ov_assign rfl) rfl ?_
        refine rl_nil ?_
        refine at_then ?_
        refine ct_block ?_
        refine ct_loopR (ι := Nat × Int) (fun q => [(9, .int .i64 q.2), (10, .int .i64 (nbL (nbF (ways (-1) xs) st t) q.2)), (12, .int .i64 q.1)]) [(0, _), (1, _), (4, _), (5, _), (6, _), (7, _), (8, _), (11, _)] (fun _ => _) (fun q => q.1 ≤ st.length ∧ q.2 = nbest (nbF (ways (-1) xs) st t) out q.1) (fun q => st.length - q.1) ((0, -1)) (Sub.cons rfl (Sub.cons rfl (Sub.cons rfl (Sub.cons rfl (Sub.cons rfl (Sub.cons rfl (Sub.cons rfl (Sub.cons rfl Sub.nil)))))))) (fun _ hq => hq) (by (repeat' (first | exact Sub.nil | refine Sub.cons ?_ ?_)); all_goals (first | rfl | exact lkInt rfl (by omega))) ⟨Nat.zero_le _, rfl⟩ (fun q hq0 => ?_)
        obtain ⟨j, b⟩ := q
        obtain ⟨hj, hnb⟩ := hq0
        dsimp only at hj hnb
        try dsimp only
        refine ct_seq ?_
        refine ct_seq ?_
        refine ct_reg ?_
        refine rl_val gw_none (ov_move rfl) rfl ?_
        refine rl_val gw_none (ov_move rfl) rfl ?_
        refine rl_val gw_none (ov_len Try.underlying30 rfl) rfl ?_
        refine rl_val gw_none (ov_lss rfl rfl) rfl ?_
        refine rl_nil ?_
        refine at_then ?_
        first | refine ct_dec rfl (fun h3 => ?_) (fun h3 => ?_) | refine ct_ndec rfl (fun h3 => ?_) (fun h3 => ?_) | refine ct_eq rfl (fun h3 => ?_) (fun h3 => ?_) | refine ct_ne rfl (fun h3 => ?_) (fun h3 => ?_) | refine ct_not rfl (fun h3 => ?_) (fun h3 => ?_) | refine ct_cond rfl (fun h3 => ?_) (fun h3 => ?_)
        ·
          have hj2 : j < st.length := by first | omega | (dsimp only at *; omega)
          obtain ⟨b2, o2, rfl, hel2⟩ := hsst.elem encStay_len (by omega) hj2
          have hx := getLt hj2
          generalize st[j] = x at *
          have hcx := hel2 _ x hx
          obtain ⟨c0, c1, c2, _⟩ := hel2 _ x hx
          have hxb := stay_at hsB hx
          have hat8 : t.toNat < 8 := by omega
          have hxt8 : x.town.toNat < 8 := by omega
          have hgb := ways_bd (wo := -1) hR hat8 hxt8
          have hv := g8At hwl hat8 hxt8
          have hF := nbF_eq (m := ways (-1) xs) (t := t) hx
          have hbb := nbest_bd (nbF (ways (-1) xs) st t) out j
          refine ct_skip ?_
          refine at_then ?_
          refine ct_seq ?_
          refine ct_block ?_
          refine ct_seq ?_
          refine ct_reg ?_
          refine rl_val gw_none (ov_move rfl) rfl ?_
          refine rl_val gw_none (ov_move rfl) rfl ?_
          refine rl_callv gw_none goes58 rfl (fun w1 hp => l1Has_c out (j : Int) _ _ (hp.slsr 1 rfl hsl)) rfl ?_
          refine rl_val gw_none (ov_not rfl) rfl ?_
          refine rl_val gw_none (ov_move rfl) rfl ?_
          refine rl_split (t := 37) rfl (fun g2 => ?_) (fun g2 => ?_)
          ·
            have g2' := g2
            try simp only [Bool.not_eq_true', Bool.not_eq_false', Bool.not_not, decide_eq_true_eq, decide_eq_false_iff_not, beq_iff_eq, beq_eq_false_iff_ne, bne_iff_ne, bne_eq_false_iff_eq, Bool.and_eq_true, Bool.or_eq_true, Bool.and_eq_false_iff, Bool.or_eq_false_iff, inB] at g2'
            refine rl_val (gw_some rfl rfl g2) (ov_move rfl) rfl ?_
            refine rl_val (gw_some rfl rfl g2) (ov_move rfl) rfl ?_
            refine rl_val (gw_some rfl rfl g2) (ov_move rfl) rfl ?_
            first | refine rl_val (gw_some rfl rfl g2) (ov_ix Try.underlying30 sz44 rfl rfl _ rfl (by omega)) rfl ?_ | refine rl_val (gw_some rfl rfl g2) (ov_ix Try.underlying30 sz44 rfl rfl (t.toNat) (by omega) (by omega)) rfl ?_ | refine rl_val (gw_some rfl rfl g2) (ov_ix Try.underlying30 sz44 rfl rfl (x.town.toNat) (by omega) (by omega)) rfl ?_ | refine rl_val (gw_some rfl rfl g2) (ov_ix Try.underlying30 sz44 rfl rfl (y.town.toNat) (by omega) (by omega)) rfl ?_ | refine rl_val (gw_some rfl rfl g2) (ov_ix Try.underlying30 sz44 rfl rfl (b.toNat) (by omega) (by omega)) rfl ?_ | refine rl_val (gw_some rfl rfl g2) (ov_ix Try.underlying30 sz44 rfl rfl (j) (by omega) (by omega)) rfl ?_
            refine rl_val (gw_some rfl rfl g2) (ov_field fo44_0 rfl) rfl ?_
            first | refine rl_val (gw_some rfl rfl g2) (ov_load 0 sc3 rfl rfl rfl) rfl ?_ | refine rl_val (gw_some rfl rfl g2) (ov_load 1 sc3 rfl rfl rfl) rfl ?_ | refine rl_val (gw_some rfl rfl g2) (ov_load 2 sc3 rfl rfl rfl) rfl ?_ | refine rl_val (gw_some rfl rfl g2) (ov_load 3 sc3 rfl rfl rfl) rfl ?_ | refine rl_val (gw_some rfl rfl g2) (ov_loadw sc3 rfl (by assumption)) rfl ?_ | refine rl_val (gw_some rfl rfl g2) (ov_load 0 sc3 rfl rfl (by assumption)) rfl ?_ | refine rl_val (gw_some rfl rfl g2) (ov_load 1 sc3 rfl rfl (by assumption)) rfl ?_ | refine rl_val (gw_some rfl rfl g2) (ov_load 2 sc3 rfl rfl (by assumption)) rfl ?_ | refine rl_val (gw_some rfl rfl g2) (ov_load 3 sc3 rfl rfl (by assumption)) rfl ?_
            first | refine rl_val (gw_some rfl rfl g2) (ov_ix Try.underlying39 sz3 rfl rfl _ rfl (by omega)) rfl ?_ | refine rl_val (gw_some rfl rfl g2) (ov_ix Try.underlying39 sz3 rfl rfl (t.toNat) (by omega) (by omega)) rfl ?_ | refine rl_val (gw_some rfl rfl g2) (ov_ix Try.underlying39 sz3 rfl rfl (x.town.toNat) (by omega) (by omega)) rfl ?_ | refine rl_val (gw_some rfl rfl g2) (ov_ix Try.underlying39 sz3 rfl rfl (y.town.toNat) (by omega) (by omega)) rfl ?_ | refine rl_val (gw_some rfl rfl g2) (ov_ix Try.underlying39 sz3 rfl rfl (b.toNat) (by omega) (by omega)) rfl ?_ | refine rl_val (gw_some rfl rfl g2) (ov_ix Try.underlying39 sz3 rfl rfl (j) (by omega) (by omega)) rfl ?_
            refine rl_val (gw_some rfl rfl g2) (ov_load 0 sc3 rfl rfl (bfAt hR hat8 hxt8 _)) rfl ?_
            refine rl_val (gw_some rfl rfl g2) (ov_move rfl) rfl ?_
            refine rl_val (gw_some rfl rfl g2) (ov_lss rfl rfl) rfl ?_
            refine rl_val gw_none (ov_pick_t rfl g2 rfl) rfl ?_
            refine rl_nil ?_
            refine at_then ?_
            first | refine ct_dec rfl (fun h4 => ?_) (fun h4 => ?_) | refine ct_ndec rfl (fun h4 => ?_) (fun h4 => ?_) | refine ct_eq rfl (fun h4 => ?_) (fun h4 => ?_) | refine ct_ne rfl (fun h4 => ?_) (fun h4 => ?_) | refine ct_not rfl (fun h4 => ?_) (fun h4 => ?_) | refine ct_cond rfl (fun h4 => ?_) (fun h4 => ?_)
            ·
              refine ct_seq ?_
              refine ct_reg ?_
              refine rl_val gw_none (ov_move rfl) rfl ?_
              refine rl_val gw_none (ov_assign rfl) rfl ?_
              refine rl_nil ?_
              refine at_then ?_
              refine ct_reg ?_
              refine rl_val gw_none (ov_move rfl) rfl ?_
              refine rl_val gw_none (ov_move rfl) rfl ?_
              refine rl_val gw_none (ov_move rfl) rfl ?_
              first | refine rl_val gw_none (ov_ix Try.underlying30 sz44 rfl rfl _ rfl (by omega)) rfl ?_ | refine rl_val gw_none (ov_ix Try.underlying30 sz44 rfl rfl (t.toNat) (by omega) (by omega)) rfl ?_ | refine rl_val gw_none (ov_ix Try.underlying30 sz44 rfl rfl (x.town.toNat) (by omega) (by omega)) rfl ?_ | refine rl_val gw_none (ov_ix Try.underlying30 sz44 rfl rfl (y.town.toNat) (by omega) (by omega)) rfl ?_ | refine rl_val gw_none (ov_ix Try.underlying30 sz44 rfl rfl (b.toNat) (by omega) (by omega)) rfl ?_ | refine rl_val gw_none (ov_ix Try.underlying30 sz44 rfl rfl (j) (by omega) (by omega)) rfl ?_
              refine rl_val gw_none (ov_field fo44_0 rfl) rfl ?_
              first | refine rl_val gw_none (ov_load 0 sc3 rfl rfl rfl) rfl ?_ | refine rl_val gw_none (ov_load 1 sc3 rfl rfl rfl) rfl ?_ | refine rl_val gw_none (ov_load 2 sc3 rfl rfl rfl) rfl ?_ | refine rl_val gw_none (ov_load 3 sc3 rfl rfl rfl) rfl ?_ | refine rl_val gw_none (ov_loadw sc3 rfl (by assumption)) rfl ?_ | refine rl_val gw_none (ov_load 0 sc3 rfl rfl (by assumption)) rfl ?_ | refine rl_val gw_none (ov_load 1 sc3 rfl rfl (by assumption)) rfl ?_ | refine rl_val gw_none (ov_load 2 sc3 rfl rfl (by assumption)) rfl ?_ | refine rl_val gw_none (ov_load 3 sc3 rfl rfl (by assumption)) rfl ?_
              first | refine rl_val gw_none (ov_ix Try.underlying39 sz3 rfl rfl _ rfl (by omega)) rfl ?_ | refine rl_val gw_none (ov_ix Try.underlying39 sz3 rfl rfl (t.toNat) (by omega) (by omega)) rfl ?_ | refine rl_val gw_none (ov_ix Try.underlying39 sz3 rfl rfl (x.town.toNat) (by omega) (by omega)) rfl ?_ | refine rl_val gw_none (ov_ix Try.underlying39 sz3 rfl rfl (y.town.toNat) (by omega) (by omega)) rfl ?_ | refine rl_val gw_none (ov_ix Try.underlying39 sz3 rfl rfl (b.toNat) (by omega) (by omega)) rfl ?_ | refine rl_val gw_none (ov_ix Try.underlying39 sz3 rfl rfl (j) (by omega) (by omega)) rfl ?_
              refine rl_val gw_none (ov_load 0 sc3 rfl rfl (bfAt hR hat8 hxt8 _)) rfl ?_
              refine rl_val gw_none (ov_assign rfl) rfl ?_
              refine rl_nil ?_
              refine at_block ?_
              refine at_then ?_
              refine ct_reg ?_
              refine rl_val gw_none (ov_move rfl) rfl ?_
              refine rl_val gw_none (ov_add rfl rfl (by omega)) rfl ?_
              refine rl_val gw_none (ov_assign rfl) rfl ?_
              refine rl_nil ?_
              have hnn := nbest_yesL hnb (by simpa using g2) (by rw [hF]; omega)
              exact at_backR (j + 1, (j : Int)) ⟨hj2, hnn⟩ (by first | omega | (dsimp only at *; omega)) (by dsimp only; (repeat' (first | exact Sub.nil | refine Sub.cons ?_ ?_)); all_goals (first | rfl | exact lkInt rfl (by omega) | exact lkInt rfl (by rw [nbL_k, hF]))) (Sub.cons rfl (Sub.cons rfl (Sub.cons rfl (Sub.cons rfl (Sub.cons rfl (Sub.cons rfl (Sub.cons rfl (Sub.cons rfl Sub.nil)))))))) (fun _ hq => hq)
            ·
              refine ct_skip ?_
              refine at_block ?_
              refine at_then ?_
              refine ct_reg ?_
              refine rl_val gw_none (ov_move rfl) rfl ?_
              refine rl_val gw_none (ov_add rfl rfl (by omega)) rfl ?_
              refine rl_val gw_none (ov_assign rfl) rfl ?_
              refine rl_nil ?_
              have hnn := nbest_noL hnb (by first | (left; simpa using g2) | (right; rw [hF]; omega))
              exact at_backR (j + 1, b) ⟨hj2, hnn⟩ (by first | omega | (dsimp only at *; omega)) (by dsimp only; (repeat' (first | exact Sub.nil | refine Sub.cons ?_ ?_)); all_goals (first | rfl | exact lkInt rfl (by omega) | exact lkInt rfl (by rw [nbL_k, hF]))) (Sub.cons rfl (Sub.cons rfl (Sub.cons rfl (Sub.cons rfl (Sub.cons rfl (Sub.cons rfl (Sub.cons rfl (Sub.cons rfl Sub.nil)))))))) (fun _ hq => hq)
          ·
            have g2' := g2
            try simp only [Bool.not_eq_true', Bool.not_eq_false', Bool.not_not, decide_eq_true_eq, decide_eq_false_iff_not, beq_iff_eq, beq_eq_false_iff_ne, bne_iff_ne, bne_eq_false_iff_eq, Bool.and_eq_true, Bool.or_eq_true, Bool.and_eq_false_iff, Bool.or_eq_false_iff, inB] at g2'
            refine rl_skip (gw_not rfl rfl g2) rfl ?_
            refine rl_skip (gw_not rfl rfl g2) rfl ?_
            refine rl_skip (gw_not rfl rfl g2) rfl ?_
            refine rl_skip (gw_not rfl rfl g2) rfl ?_
            refine rl_skip (gw_not rfl rfl g2) rfl ?_
            refine rl_skip (gw_not rfl rfl g2) rfl ?_
            refine rl_skip (gw_not rfl rfl g2) rfl ?_
            refine rl_skip (gw_not rfl rfl g2) rfl ?_
            refine rl_skip (gw_not rfl rfl g2) rfl ?_
            refine rl_skip (gw_not rfl rfl g2) rfl ?_
            refine rl_val gw_none (ov_pick_f rfl g2 rfl) rfl ?_
            refine rl_nil ?_
            refine at_then ?_
            refine ct_false rfl rfl ?_
            refine ct_skip ?_
            refine at_block ?_
            refine at_then ?_
            refine ct_reg ?_
            refine rl_val gw_none (ov_move rfl) rfl ?_
            refine rl_val gw_none (ov_add rfl rfl (by omega)) rfl ?_
            refine rl_val gw_none (ov_assign rfl) rfl ?_
            refine rl_nil ?_
            have hnn := nbest_noL hnb (by first | (left; simpa using g2) | (right; rw [hF]; omega))
            exact at_backR (j + 1, b) ⟨hj2, hnn⟩ (by first | omega | (dsimp only at *; omega)) (by dsimp only; (repeat' (first | exact Sub.nil | refine Sub.cons ?_ ?_)); all_goals (first | rfl | exact lkInt rfl (by omega) | exact lkInt rfl (by rw [nbL_k, hF]))) (Sub.cons rfl (Sub.cons rfl (Sub.cons rfl (Sub.cons rfl (Sub.cons rfl (Sub.cons rfl (Sub.cons rfl (Sub.cons rfl Sub.nil)))))))) (fun _ hq => hq)
        ·
          have hje : j = st.length := by first | omega | (dsimp only at *; omega)
          subst hje
          refine ct_exit ?_
          refine at_then_exit ?_
          refine at_then_exit ?_
          refine at_block_hit ?_
          refine at_then ?_
          refine ct_seq ?_
          refine ct_reg ?_
          refine rl_val gw_none (ov_move rfl) rfl ?_
          refine rl_val gw_none (ov_geq rfl rfl) rfl ?_
          refine rl_nil ?_
          refine at_then ?_
          first | refine ct_dec rfl (fun h5 => ?_) (fun h5 => ?_) | refine ct_ndec rfl (fun h5 => ?_) (fun h5 => ?_) | refine ct_eq rfl (fun h5 => ?_) (fun h5 => ?_) | refine ct_ne rfl (fun h5 => ?_) (fun h5 => ?_) | refine ct_not rfl (fun h5 => ?_) (fun h5 => ?_) | refine ct_cond rfl (fun h5 => ?_) (fun h5 => ?_)
          ·
            have hb0 : 0 ≤ b := by first | omega | (simp at *; omega)
            have hbn : b.toNat < st.length := by have := nbest_bd (nbF (ways (-1) xs) st t) out st.length; first | omega | (dsimp only at *; omega)
            obtain ⟨b3, o3, hq3, hel3⟩ := hsst.elem encStay_len (by omega) hbn
            have hy := getLt hbn
            generalize st[b.toNat] = y at *
            obtain ⟨d0, d1, d2, _⟩ := hel3 _ y hy
            have hyb := stay_at hsB hy
            have hat8 : t.toNat < 8 := by omega
            have hyt8 : y.town.toNat < 8 := by omega
            have hgy := ways_bd (wo := -1) hR hat8 hyt8
            have hvy := g8At hwl hat8 hyt8
            have hFy := nbF_eq (m := ways (-1) xs) (t := t) hy
            have htw := tw_eq hy
            subst hq3
            refine ct_seq ?_
            refine ct_reg ?_
            refine rl_val gw_none (ov_move rfl) rfl ?_
            refine rl_val gw_none (ov_move rfl) rfl ?_
            refine rl_bslice Try.underlying39 ze3 sz3 rfl rfl rfl rfl rfl rfl (fun N2 => ?_)
            refine rl_appT (ints) (ints_append) [_, _] (acc := out) Try.underlying39 ze3 sz3 rfl rfl by3 rfl rfl rfl hsl ([b]) rfl (fun w1 hp => hp.sr1 0 rfl rfl (by decide)) (ints_one _) (by unfold maxLen; omega) (by omega) rfl (fun boq1 capq1 padq1 hsq1 => ?_)
            refine rl_val gw_none (ov_assign rfl) rfl ?_
            refine rl_nil ?_
            refine at_then ?_
            refine ct_seq ?_
            refine ct_reg ?_
            refine rl_val gw_none (ov_move rfl) rfl ?_
            refine rl_val gw_none (ov_move rfl) rfl ?_
            first | refine rl_val gw_none (ov_ix Try.underlying30 sz44 rfl rfl _ rfl (by omega)) rfl ?_ | refine rl_val gw_none (ov_ix Try.underlying30 sz44 rfl rfl (t.toNat) (by omega) (by omega)) rfl ?_ | refine rl_val gw_none (ov_ix Try.underlying30 sz44 rfl rfl (x.town.toNat) (by omega) (by omega)) rfl ?_ | refine rl_val gw_none (ov_ix Try.underlying30 sz44 rfl rfl (y.town.toNat) (by omega) (by omega)) rfl ?_ | refine rl_val gw_none (ov_ix Try.underlying30 sz44 rfl rfl (b.toNat) (by omega) (by omega)) rfl ?_ | refine rl_val gw_none (ov_ix Try.underlying30 sz44 rfl rfl (j) (by omega) (by omega)) rfl ?_
            refine rl_val gw_none (ov_field fo44_0 rfl) rfl ?_
            first | refine rl_val gw_none (ov_load 0 sc3 rfl rfl rfl) rfl ?_ | refine rl_val gw_none (ov_load 1 sc3 rfl rfl rfl) rfl ?_ | refine rl_val gw_none (ov_load 2 sc3 rfl rfl rfl) rfl ?_ | refine rl_val gw_none (ov_load 3 sc3 rfl rfl rfl) rfl ?_ | refine rl_val gw_none (ov_loadw sc3 rfl (by assumption)) rfl ?_ | refine rl_val gw_none (ov_load 0 sc3 rfl rfl (by assumption)) rfl ?_ | refine rl_val gw_none (ov_load 1 sc3 rfl rfl (by assumption)) rfl ?_ | refine rl_val gw_none (ov_load 2 sc3 rfl rfl (by assumption)) rfl ?_ | refine rl_val gw_none (ov_load 3 sc3 rfl rfl (by assumption)) rfl ?_
            refine rl_val gw_none (ov_assign rfl) rfl ?_
            refine rl_nil ?_
            refine at_then ?_
            refine ct_reg ?_
            refine rl_val gw_none (ov_assign rfl) rfl ?_
            refine rl_nil ?_
            refine at_block ?_
            have hIn := hI.next hnb hb0
            have hle := hIn.le
            have htb := tw_bd hsB b
            exact at_backR (k + 1, boq1, capq1, padq1, out ++ [b], tw st b, true) ⟨hIn, hsq1, htb.1, htb.2, fun h => by cases h⟩ (by simp only [Bool.toNat_true, Bool.toNat_false]; omega) (by dsimp only; (repeat' (first | exact Sub.nil | refine Sub.cons ?_ ?_)); all_goals (first | rfl | exact lkInt rfl (by omega))) (Sub.cons rfl (Sub.cons rfl (Sub.cons rfl (Sub.cons rfl Sub.nil)))) (fun _ hq => hq.drop.drop)
          ·
            refine ct_skip ?_
            refine at_block ?_
            have hb9 : nbest (nbF (ways (-1) xs) st t) out st.length < 0 := by omega
            exact at_backR (k, bo, cap, pad, out, t, false) ⟨hI, hsl, ht0, ht7, fun _ => hb9⟩ (by simp only [Bool.toNat_true, Bool.toNat_false]; omega) (by dsimp only; (repeat' (first | exact Sub.nil | refine Sub.cons ?_ ?_)); all_goals (first | rfl | exact lkInt rfl (by omega))) (Sub.cons rfl (Sub.cons rfl (Sub.cons rfl (Sub.cons rfl Sub.nil)))) (fun _ hq => hq.drop)
      ·
        refine ct_exit ?_
        refine at_then_exit ?_
        refine at_then_exit ?_
        refine at_block_hit ?_
        refine at_then ?_
        refine ct_seq ?_
        refine ct_reg ?_
        refine rl_val gw_none (ov_move rfl) rfl ?_
        refine rl_val gw_none (ov_assign rfl) rfl ?_
        refine rl_val gw_none (ov_assign rfl) rfl ?_
        refine rl_nil ?_
        refine at_then ?_
        refine ct_ret ?_
        refine at_ret2 Try.results22 (ro_tmp rfl) (ro_tmp rfl) (fun w1 hp => ?_)
        first | (rw [nsR_yes hok2, hok2, ← hI.done hst7 rfl (hag (by simpa using h2))]; exact RetSl.own 0 hp rfl hsl) | (have hb : nsOk xs st = false := (by unfold nsOk; rw [show roadsB xs = false by simpa [roadsB] using g1]; first | rfl | simp); rw [nsR_no hb, hb]; first | exact RetSl.nil hp.ext0 | exact RetSl.lit 0 hp rfl rfl (by decide)) | (have hb : nsOk xs st = false := (by unfold nsOk; rw [show staysB st = false by simpa [staysB] using h1]; first | rfl | simp); rw [nsR_no hb, hb]; first | exact RetSl.nil hp.ext0 | exact RetSl.lit 0 hp rfl rfl (by decide))
end Go.Proofs.Ytgnnlgmeagipjaa
