import Derived.Test.YtgnnlgmeagipjaaTm
import Derived.KernelRfl
set_option linter.unusedVariables false
set_option linter.unusedSimpArgs false
namespace Go.Proofs.Ytgnnlgmeagipjaa
open Go Go.RowKit K
theorem sDaysOf_c (xs : List Road) (st : List Stay) (ord : List Int) (vxs : Value) (vst : Value) (vord : Value) (w : World) (hGxs : ∀ y ∈ xs, GRoad y) (hsxs : SR w 3 vxs xs.length (flat encRoad xs)) (hGst : ∀ y ∈ st, GStay y) (hsst : SR w 3 vst st.length (flat encStay st)) (hsord : SR w 1 vord ord.length (ints ord)) : Calls Try.prog 20 ([vxs, vst, vord]).toArray w (fun e w' => e = .returned (.tuple #[.int .i64 (daR xs st ord), .bool (daB xs st ord)]) ∧ Ext w w') := by
  obtain ⟨axs, capxs, rfl, hcapxs, hmaxxs⟩ := hsxs.slice
  have hlenxs := hsxs.len_le
  obtain ⟨ast, capst, rfl, hcapst, hmaxst⟩ := hsst.slice
  have hlenst := hsst.len_le
  obtain ⟨aord, capord, rfl, hcapord, hmaxord⟩ := hsord.slice
  have hlenord := hsord.len_le
  refine calls_ct Try.func20 Try.ntmps20 rfl rfl ?_
  refine ct_seq ?_
  refine ct_reg ?_
  refine rl_val gw_none (ov_assign rfl) rfl ?_
  refine rl_val gw_none (ov_assign rfl) rfl ?_
  refine rl_nil ?_
  refine at_then ?_
  refine ct_seq ?_
  refine ct_seq ?_
  refine ct_reg ?_
  refine rl_val gw_none (ov_move rfl) rfl ?_
  refine rl_callv gw_none goes40 rfl (fun w1 hp => l24Roads_c xs _ _ (hsxs.ext hp.ext0)) rfl ?_
  refine rl_val gw_none (ov_not rfl) rfl ?_
  refine rl_val gw_none (ov_move rfl) rfl ?_
  refine rl_split (t := 15) rfl (fun g1 => ?_) (fun g1 => ?_)
  ·
    have g1' := g1
    try simp only [Bool.not_eq_true', Bool.not_eq_false', Bool.not_not, decide_eq_true_eq, decide_eq_false_iff_not, beq_iff_eq, beq_eq_false_iff_ne, bne_iff_ne, bne_eq_false_iff_eq, Bool.and_eq_true, Bool.or_eq_true, Bool.and_eq_false_iff, Bool.or_eq_false_iff, inB] at g1'
    refine rl_skip (gw_not rfl rfl g1) rfl ?_
    refine rl_skip (gw_not rfl rfl g1) rfl ?_
    refine rl_skip (gw_not rfl rfl g1) rfl ?_
    refine rl_val gw_none (ov_pick_t rfl g1 rfl) rfl ?_
    refine rl_nil ?_
    refine at_then ?_
    refine ct_true rfl rfl ?_
    refine ct_seq ?_
    refine ct_reg ?_
    refine rl_val gw_none (ov_assign rfl) rfl ?_
    refine rl_val gw_none (ov_assign rfl) rfl ?_
    refine rl_nil ?_
    refine at_then ?_
    refine ct_ret ?_
    refine at_then_ret ?_
    refine at_ret2 Try.results20 (ro_tmp rfl) (ro_tmp rfl) (fun w1 hp => ?_)
    refine ⟨?_, hp.ext0⟩
    first | (have hb : daB xs st ord = false := daB_no (.inl (by simpa [roadsB] using g1)); rw [daR_no hb, hb]; done) | (have hb : daB xs st ord = false := daB_no (.inr (.inl (by simpa [staysB] using h1))); rw [daR_no hb, hb]; done) | (have hb : daB xs st ord = false := daB_no (.inr (.inr (.inl (daV_no hk2 (by rw [hik, show inB i 0 ((st.length : Int) - 1) = false by simpa using g2]; rfl))))); rw [daR_no hb, hb]; done) | (have hb : daB xs st ord = false := daB_no (.inr (.inr (.inl (daV_no hk2 (by rw [hik, show hasL (ord.take k) i = true by first | (simpa using h3; done) | (simpa [hasL] using h3; done)]; simp))))); rw [daR_no hb, hb]; done) | (have hb : daB xs st ord = false := daB_no (.inr (.inr (.inr (by rw [List.take_length] at h4; omega)))); rw [daR_no hb, hb]; done) | (rw [List.take_length] at h4 ⊢; have hb := daB_yes hrB hsB hall (by omega); rw [daR_yes hb, hb]; done)
  ·
    have g1' := g1
    try simp only [Bool.not_eq_true', Bool.not_eq_false', Bool.not_not, decide_eq_true_eq, decide_eq_false_iff_not, beq_iff_eq, beq_eq_false_iff_ne, bne_iff_ne, bne_eq_false_iff_eq, Bool.and_eq_true, Bool.or_eq_true, Bool.and_eq_false_iff, Bool.or_eq_false_iff, inB] at g1'
    refine rl_val (gw_some rfl rfl g1) (ov_move rfl) rfl ?_
    refine rl_callv (gw_some rfl rfl g1) goes41 rfl (fun w1 hp => l24Stays_c st _ _ (hsst.ext hp.ext0)) rfl ?_
    refine rl_val (gw_some rfl rfl g1) (ov_not rfl) rfl ?_
    refine rl_val gw_none (ov_pick_f rfl g1 rfl) rfl ?_
    refine rl_nil ?_
    refine at_then ?_
    first | refine ct_dec rfl (fun h1 => ?_) (fun h1 => ?_) | refine ct_ndec rfl (fun h1 => ?_) (fun h1 => ?_) | refine ct_eq rfl (fun h1 => ?_) (fun h1 => ?_) | refine ct_ne rfl (fun h1 => ?_) (fun h1 => ?_) | refine ct_not rfl (fun h1 => ?_) (fun h1 => ?_) | refine ct_cond rfl (fun h1 => ?_) (fun h1 => ?_)
    ·
      refine ct_seq ?_
      refine ct_reg ?_
      refine rl_val gw_none (ov_assign rfl) rfl ?_
      refine rl_val gw_none (ov_assign rfl) rfl ?_
      refine rl_nil ?_
      refine at_then ?_
      refine ct_ret ?_
      refine at_then_ret ?_
      refine at_ret2 Try.results20 (ro_tmp rfl) (ro_tmp rfl) (fun w1 hp => ?_)
      refine ⟨?_, hp.ext0⟩
      first | (have hb : daB xs st ord = false := daB_no (.inl (by simpa [roadsB] using g1)); rw [daR_no hb, hb]; done) | (have hb : daB xs st ord = false := daB_no (.inr (.inl (by simpa [staysB] using h1))); rw [daR_no hb, hb]; done) | (have hb : daB xs st ord = false := daB_no (.inr (.inr (.inl (daV_no hk2 (by rw [hik, show inB i 0 ((st.length : Int) - 1) = false by simpa using g2]; rfl))))); rw [daR_no hb, hb]; done) | (have hb : daB xs st ord = false := daB_no (.inr (.inr (.inl (daV_no hk2 (by rw [hik, show hasL (ord.take k) i = true by first | (simpa using h3; done) | (simpa [hasL] using h3; done)]; simp))))); rw [daR_no hb, hb]; done) | (have hb : daB xs st ord = false := daB_no (.inr (.inr (.inr (by rw [List.take_length] at h4; omega)))); rw [daR_no hb, hb]; done) | (rw [List.take_length] at h4 ⊢; have hb := daB_yes hrB hsB hall (by omega); rw [daR_yes hb, hb]; done)
    ·
      have hrB : roadsB xs = true := by simpa [roadsB] using g1
      have hR := roads_ok hrB
      have hok := hR.1
      have hwl := ways_len (-1) xs
      have hsB : staysB st = true := by simpa [staysB] using h1
      have hst7 : st.length ≤ 7 := listB_len hsB
      refine ct_skip ?_
      refine at_then ?_
      refine ct_seq ?_
      refine ct_reg ?_
      refine rl_val gw_none (ov_assign rfl) rfl ?_
      refine rl_val gw_none (ov_assign rfl) rfl ?_
      refine rl_nil ?_
      refine at_then ?_
      refine ct_seq ?_
      refine ct_seq ?_
      refine ct_reg ?_
      refine rl_val gw_none (ov_assign rfl) rfl ?_
      refine rl_nil ?_
      refine at_then ?_
      refine ct_block ?_
      refine ct_loopR (ι := Nat) (fun k => [(8, .int .i64 (daF (ways (-1) xs) st (ord.take k)).1), (9, .int .i64 (daF (ways (-1) xs) st (ord.take k)).2), (10, .int .i64 k)]) [(0, _), (1, _), (2, _)] (fun _ => _) (fun k => k ≤ ord.length ∧ (∀ j, j < k → okI st ord j = true) ∧ 0 ≤ (daF (ways (-1) xs) st (ord.take k)).1 ∧ (daF (ways (-1) xs) st (ord.take k)).1 ≤ 1000030 * (k : Int)) (fun k => ord.length - k) (0) (Sub.cons rfl (Sub.cons rfl (Sub.cons rfl Sub.nil))) (fun _ hq => hq) (by (repeat' (first | exact Sub.nil | refine Sub.cons ?_ ?_)); all_goals (first | rfl | exact lkInt rfl (by omega))) ⟨Nat.zero_le _, fun j hj => absurd hj (Nat.not_lt_zero j), Int.le_refl (0 : Int), Int.le_refl (0 : Int)⟩ (fun k hi0 => ?_)
      obtain ⟨hk, hall, hS0, hS1⟩ := hi0
      refine ct_seq ?_
      refine ct_seq ?_
      refine ct_reg ?_
      refine rl_val gw_none (ov_move rfl) rfl ?_
      refine rl_val gw_none (ov_move rfl) rfl ?_
      refine rl_val gw_none (ov_len Try.underlying39 rfl) rfl ?_
      refine rl_val gw_none (ov_lss rfl rfl) rfl ?_
      refine rl_nil ?_
      refine at_then ?_
      first | refine ct_dec rfl (fun h2 => ?_) (fun h2 => ?_) | refine ct_ndec rfl (fun h2 => ?_) (fun h2 => ?_) | refine ct_eq rfl (fun h2 => ?_) (fun h2 => ?_) | refine ct_ne rfl (fun h2 => ?_) (fun h2 => ?_) | refine ct_not rfl (fun h2 => ?_) (fun h2 => ?_) | refine ct_cond rfl (fun h2 => ?_) (fun h2 => ?_)
      ·
        have hk2 : k < ord.length := by omega
        obtain ⟨b, o, rfl, hel⟩ := hsord.int hk2
        have hi := getLt hk2
        generalize ord[k] = i at *
        have hci := hel k i hi
        have hik := okI_eq (st := st) hi
        have htb := daF_town (m := ways (-1) xs) hsB (ord.take k)
        have hk7 := okI_len hk hall
        refine ct_skip ?_
        refine at_then ?_
        refine ct_seq ?_
        refine ct_block ?_
        refine ct_seq ?_
        refine ct_seq ?_
        refine ct_dr 19 (by kernel_rfl) (by kernel_rfl) ?_
        refine ql_val gw_none (ov_move rfl) rfl ?_
        refine ql_val gw_none (ov_move rfl) rfl ?_
        first | refine ql_val gw_none (ov_ix Try.underlying39 sz3 rfl rfl _ rfl (by omega)) rfl ?_ | refine ql_val gw_none (ov_ix Try.underlying39 sz3 rfl rfl (k) (by omega) (by omega)) rfl ?_ | refine ql_val gw_none (ov_ix Try.underlying39 sz3 rfl rfl ((daF (ways (-1) xs) st (ord.take k)).2.toNat) (by omega) (by omega)) rfl ?_ | refine ql_val gw_none (ov_ix Try.underlying39 sz3 rfl rfl (x.town.toNat) (by omega) (by omega)) rfl ?_ | refine ql_val gw_none (ov_ix Try.underlying39 sz3 rfl rfl (i.toNat) (by omega) (by omega)) rfl ?_
        first | refine ql_val gw_none (ov_load 0 sc3 rfl rfl rfl) rfl ?_ | refine ql_val gw_none (ov_load 1 sc3 rfl rfl rfl) rfl ?_ | refine ql_val gw_none (ov_load 2 sc3 rfl rfl rfl) rfl ?_ | refine ql_val gw_none (ov_load 3 sc3 rfl rfl rfl) rfl ?_ | refine ql_val gw_none (ov_loadw sc3 rfl (by assumption)) rfl ?_ | refine ql_val gw_none (ov_load 0 sc3 rfl rfl (by assumption)) rfl ?_ | refine ql_val gw_none (ov_load 1 sc3 rfl rfl (by assumption)) rfl ?_ | refine ql_val gw_none (ov_load 2 sc3 rfl rfl (by assumption)) rfl ?_ | refine ql_val gw_none (ov_load 3 sc3 rfl rfl (by assumption)) rfl ?_
        refine ql_val gw_none (ov_move rfl) rfl ?_
        refine ql_val gw_none (ov_len Try.underlying30 rfl) rfl ?_
        refine ql_val gw_none (ov_sub rfl rfl (by omega)) rfl ?_
        refine ql_callv gw_none goes51 rfl (fun w1 hp => l1In_c _ _ _ _) rfl ?_
        refine ql_val gw_none (ov_not rfl) rfl ?_
        refine ql_val gw_none (ov_move rfl) rfl ?_
        refine ql_split (t := 35) rfl (fun g2 => ?_) (fun g2 => ?_)
        ·
          have g2' := g2
          try simp only [Bool.not_eq_true', Bool.not_eq_false', Bool.not_not, decide_eq_true_eq, decide_eq_false_iff_not, beq_iff_eq, beq_eq_false_iff_ne, bne_iff_ne, bne_eq_false_iff_eq, Bool.and_eq_true, Bool.or_eq_true, Bool.and_eq_false_iff, Bool.or_eq_false_iff, inB] at g2'
          refine ql_skip (gw_not rfl rfl g2) rfl ?_
          refine ql_skip (gw_not rfl rfl g2) rfl ?_
          refine ql_skip (gw_not rfl rfl g2) rfl ?_
          refine ql_skip (gw_not rfl rfl g2) rfl ?_
          refine ql_skip (gw_not rfl rfl g2) rfl ?_
          refine ql_skip (gw_not rfl rfl g2) rfl ?_
          refine ql_skip (gw_not rfl rfl g2) rfl ?_
          refine ql_skip (gw_not rfl rfl g2) rfl ?_
          refine ql_val gw_none (ov_pick_t rfl g2 rfl) rfl ?_
          refine ql_nil ?_
          refine rl_nil ?_
          refine at_then ?_
          refine ct_true rfl rfl ?_
          refine ct_seq ?_
          refine ct_reg ?_
          refine rl_val gw_none (ov_assign rfl) rfl ?_
          refine rl_val gw_none (ov_assign rfl) rfl ?_
          refine rl_nil ?_
          refine at_then ?_
          refine ct_ret ?_
          refine at_then_ret ?_
          refine at_block_ret ?_
          refine at_then_ret ?_
          refine at_then_ret ?_
          refine at_block_ret ?_
          refine at_then_ret ?_
          refine at_ret2 Try.results20 (ro_tmp rfl) (ro_tmp rfl) (fun w1 hp => ?_)
          refine ⟨?_, hp.ext0⟩
          first | (have hb : daB xs st ord = false := daB_no (.inl (by simpa [roadsB] using g1)); rw [daR_no hb, hb]; done) | (have hb : daB xs st ord = false := daB_no (.inr (.inl (by simpa [staysB] using h1))); rw [daR_no hb, hb]; done) | (have hb : daB xs st ord = false := daB_no (.inr (.inr (.inl (daV_no hk2 (by rw [hik, show inB i 0 ((st.length : Int) - 1) = false by simpa using g2]; rfl))))); rw [daR_no hb, hb]; done) | (have hb : daB xs st ord = false := daB_no (.inr (.inr (.inl (daV_no hk2 (by rw [hik, show hasL (ord.take k) i = true by first | (simpa using h3; done) | (simpa [hasL] using h3; done)]; simp))))); rw [daR_no hb, hb]; done) | (have hb : daB xs st ord = false := daB_no (.inr (.inr (.inr (by rw [List.take_length] at h4; omega)))); rw [daR_no hb, hb]; done) | (rw [List.take_length] at h4 ⊢; have hb := daB_yes hrB hsB hall (by omega); rw [daR_yes hb, hb]; done)
        ·
          have hib0 : inB i 0 ((st.length : Int) - 1) = true := by simpa using g2
          have hib : 0 ≤ i ∧ i < st.length := by simp [inB] at hib0; omega
          have hi0 : i.toNat < st.length := by omega
          obtain ⟨b2, o2, rfl, hel2⟩ := hsst.elem encStay_len (by omega) hi0
          have hx := getLt hi0
          generalize st[i.toNat] = x at *
          have hcx := hel2 _ x hx
          obtain ⟨c0, c1, c2, _⟩ := hel2 _ x hx
          have hxb := stay_at hsB hx
          have htw := tw_eq hx
          have hdy := dy_eq hx
          have hat8 : (daF (ways (-1) xs) st (ord.take k)).2.toNat < 8 := by omega
          have hxt8 : x.town.toNat < 8 := by omega
          have hgb := ways_bd (wo := -1) hR hat8 hxt8
          have hv := g8At hwl hat8 hxt8
          have hsn := daF_snoc (m := ways (-1) xs) (st := st) hi
          have hs1 : (daF (ways (-1) xs) st (ord.take (k + 1))).1 = (daF (ways (-1) xs) st (ord.take k)).1 + g8 (ways (-1) xs) (daF (ways (-1) xs) st (ord.take k)).2.toNat x.town.toNat + x.days := by
            rw [hsn]
            show (daF (ways (-1) xs) st (ord.take k)).1 + g8 (ways (-1) xs) (daF (ways (-1) xs) st (ord.take k)).2.toNat (tw st i).toNat + dy st i = _
            rw [htw, hdy]
          have hs2 : (daF (ways (-1) xs) st (ord.take (k + 1))).2 = x.town := by rw [hsn]; exact htw
          refine ql_val (gw_some rfl rfl g2) (ov_move rfl) rfl ?_
          refine ql_val (gw_some rfl rfl g2) (ov_move rfl) rfl ?_
          first | refine ql_val (gw_some rfl rfl g2) (ov_subh Try.underlying39 sz3 rfl rfl (_) rfl (by omega)) rfl ?_ | refine ql_val (gw_some rfl rfl g2) (ov_subh Try.underlying39 sz3 rfl rfl (k) (by omega) (by omega)) rfl ?_ | refine ql_val (gw_some rfl rfl g2) (ov_subh Try.underlying39 sz3 rfl rfl ((daF (ways (-1) xs) st (ord.take k)).2.toNat) (by omega) (by omega)) rfl ?_ | refine ql_val (gw_some rfl rfl g2) (ov_subh Try.underlying39 sz3 rfl rfl (x.town.toNat) (by omega) (by omega)) rfl ?_ | refine ql_val (gw_some rfl rfl g2) (ov_subh Try.underlying39 sz3 rfl rfl (i.toNat) (by omega) (by omega)) rfl ?_
          refine ql_val (gw_some rfl rfl g2) (ov_move rfl) rfl ?_
          refine ql_val (gw_some rfl rfl g2) (ov_move rfl) rfl ?_
          first | refine ql_val (gw_some rfl rfl g2) (ov_ix Try.underlying39 sz3 rfl rfl _ rfl (by omega)) rfl ?_ | refine ql_val (gw_some rfl rfl g2) (ov_ix Try.underlying39 sz3 rfl rfl (k) (by omega) (by omega)) rfl ?_ | refine ql_val (gw_some rfl rfl g2) (ov_ix Try.underlying39 sz3 rfl rfl ((daF (ways (-1) xs) st (ord.take k)).2.toNat) (by omega) (by omega)) rfl ?_ | refine ql_val (gw_some rfl rfl g2) (ov_ix Try.underlying39 sz3 rfl rfl (x.town.toNat) (by omega) (by omega)) rfl ?_ | refine ql_val (gw_some rfl rfl g2) (ov_ix Try.underlying39 sz3 rfl rfl (i.toNat) (by omega) (by omega)) rfl ?_
          first | refine ql_val (gw_some rfl rfl g2) (ov_load 0 sc3 rfl rfl rfl) rfl ?_ | refine ql_val (gw_some rfl rfl g2) (ov_load 1 sc3 rfl rfl rfl) rfl ?_ | refine ql_val (gw_some rfl rfl g2) (ov_load 2 sc3 rfl rfl rfl) rfl ?_ | refine ql_val (gw_some rfl rfl g2) (ov_load 3 sc3 rfl rfl rfl) rfl ?_ | refine ql_val (gw_some rfl rfl g2) (ov_loadw sc3 rfl (by assumption)) rfl ?_ | refine ql_val (gw_some rfl rfl g2) (ov_load 0 sc3 rfl rfl (by assumption)) rfl ?_ | refine ql_val (gw_some rfl rfl g2) (ov_load 1 sc3 rfl rfl (by assumption)) rfl ?_ | refine ql_val (gw_some rfl rfl g2) (ov_load 2 sc3 rfl rfl (by assumption)) rfl ?_ | refine ql_val (gw_some rfl rfl g2) (ov_load 3 sc3 rfl rfl (by assumption)) rfl ?_
          refine ql_callv (gw_some rfl rfl g2) goes58 rfl (fun w1 hp => l1Has_c (ord.take k) i _ _ ((hsord.ext hp.ext0).takeI hk)) rfl ?_
          refine ql_val gw_none (ov_pick_f rfl g2 rfl) rfl ?_
          refine ql_nil ?_
          refine rl_nil ?_
          refine at_then ?_
          first | refine ct_dec rfl (fun h3 => ?_) (fun h3 => ?_) | refine ct_ndec rfl (fun h3 => ?_) (fun h3 => ?_) | refine ct_eq rfl (fun h3 => ?_) (fun h3 => ?_) | refine ct_ne rfl (fun h3 => ?_) (fun h3 => ?_) | refine ct_not rfl (fun h3 => ?_) (fun h3 => ?_) | refine ct_cond rfl (fun h3 => ?_) (fun h3 => ?_)
          ·
            refine ct_seq ?_
            refine ct_reg ?_
            refine rl_val gw_none (ov_assign rfl) rfl ?_
            refine rl_val gw_none (ov_assign rfl) rfl ?_
            refine rl_nil ?_
            refine at_then ?_
            refine ct_ret ?_
            refine at_then_ret ?_
            refine at_block_ret ?_
            refine at_then_ret ?_
            refine at_then_ret ?_
            refine at_block_ret ?_
            refine at_then_ret ?_
            refine at_ret2 Try.results20 (ro_tmp rfl) (ro_tmp rfl) (fun w1 hp => ?_)
            refine ⟨?_, hp.ext0⟩
            first | (have hb : daB xs st ord = false := daB_no (.inl (by simpa [roadsB] using g1)); rw [daR_no hb, hb]; done) | (have hb : daB xs st ord = false := daB_no (.inr (.inl (by simpa [staysB] using h1))); rw [daR_no hb, hb]; done) | (have hb : daB xs st ord = false := daB_no (.inr (.inr (.inl (daV_no hk2 (by rw [hik, show inB i 0 ((st.length : Int) - 1) = false by simpa using g2]; rfl))))); rw [daR_no hb, hb]; done) | (have hb : daB xs st ord = false := daB_no (.inr (.inr (.inl (daV_no hk2 (by rw [hik, show hasL (ord.take k) i = true by first | (simpa using h3; done) | (simpa [hasL] using h3; done)]; simp))))); rw [daR_no hb, hb]; done) | (have hb : daB xs st ord = false := daB_no (.inr (.inr (.inr (by rw [List.take_length] at h4; omega)))); rw [daR_no hb, hb]; done) | (rw [List.take_length] at h4 ⊢; have hb := daB_yes hrB hsB hall (by omega); rw [daR_yes hb, hb]; done)
          ·
            refine ct_skip ?_
            refine at_then ?_
            refine ct_seq ?_
            refine ct_reg ?_
            refine rl_val gw_none (ov_move rfl) rfl ?_
            refine rl_val gw_none (ov_move rfl) rfl ?_
            refine rl_val gw_none (ov_move rfl) rfl ?_
            first | refine rl_val gw_none (ov_ix Try.underlying39 sz3 rfl rfl _ rfl (by omega)) rfl ?_ | refine rl_val gw_none (ov_ix Try.underlying39 sz3 rfl rfl (k) (by omega) (by omega)) rfl ?_ | refine rl_val gw_none (ov_ix Try.underlying39 sz3 rfl rfl ((daF (ways (-1) xs) st (ord.take k)).2.toNat) (by omega) (by omega)) rfl ?_ | refine rl_val gw_none (ov_ix Try.underlying39 sz3 rfl rfl (x.town.toNat) (by omega) (by omega)) rfl ?_ | refine rl_val gw_none (ov_ix Try.underlying39 sz3 rfl rfl (i.toNat) (by omega) (by omega)) rfl ?_
            first | refine rl_val gw_none (ov_load 0 sc3 rfl rfl rfl) rfl ?_ | refine rl_val gw_none (ov_load 1 sc3 rfl rfl rfl) rfl ?_ | refine rl_val gw_none (ov_load 2 sc3 rfl rfl rfl) rfl ?_ | refine rl_val gw_none (ov_load 3 sc3 rfl rfl rfl) rfl ?_ | refine rl_val gw_none (ov_loadw sc3 rfl (by assumption)) rfl ?_ | refine rl_val gw_none (ov_load 0 sc3 rfl rfl (by assumption)) rfl ?_ | refine rl_val gw_none (ov_load 1 sc3 rfl rfl (by assumption)) rfl ?_ | refine rl_val gw_none (ov_load 2 sc3 rfl rfl (by assumption)) rfl ?_ | refine rl_val gw_none (ov_load 3 sc3 rfl rfl (by assumption)) rfl ?_
            first | refine rl_val gw_none (ov_ix Try.underlying30 sz44 rfl rfl _ rfl (by omega)) rfl ?_ | refine rl_val gw_none (ov_ix Try.underlying30 sz44 rfl rfl (k) (by omega) (by omega)) rfl ?_ | refine rl_val gw_none (ov_ix Try.underlying30 sz44 rfl rfl ((daF (ways (-1) xs) st (ord.take k)).2.toNat) (by omega) (by omega)) rfl ?_ | refine rl_val gw_none (ov_ix Try.underlying30 sz44 rfl rfl (x.town.toNat) (by omega) (by omega)) rfl ?_ | refine rl_val gw_none (ov_ix Try.underlying30 sz44 rfl rfl (i.toNat) (by omega) (by omega)) rfl ?_
            first | refine rl_val gw_none (ov_loadaw ag44 rfl rfl (by assumption)) rfl ?_ | refine rl_val gw_none (ov_loadall 0 ag44 rfl rfl rfl) rfl ?_ | refine rl_val gw_none (ov_loadall 1 ag44 rfl rfl rfl) rfl ?_ | refine rl_val gw_none (ov_loadall 2 ag44 rfl rfl rfl) rfl ?_ | refine rl_val gw_none (ov_loadall 3 ag44 rfl rfl rfl) rfl ?_
            refine rl_alloc ze44 rfl (fun N1 => ?_)
            refine rl_store [] sz44 rfl rfl rfl rfl rfl (Nat.le_of_ble_eq_true rfl) ?_
            refine rl_nil ?_
            refine at_then ?_
            refine ct_seq ?_
            refine ct_dre 11 [0, 1, 2, 4, 5, 9, 10, 3, 6, 7, 8, 11, 12] [7] (by kernel_rfl) (by kernel_rfl) ?_
            refine qe_val rfl gw_none (ov_move rfl) rfl ?_
            refine qe_val rfl gw_none (ov_move rfl) rfl ?_
            refine qe_val rfl gw_none (ov_move rfl) rfl ?_
            refine qe_val rfl gw_none (ov_field fo44_0 rfl) rfl ?_
            first | refine qe_val rfl gw_none (ov_load 0 sc3 rfl rfl rfl) rfl ?_ | refine qe_val rfl gw_none (ov_load 0 sc3 rfl rfl (by assumption)) rfl ?_
            refine qe_val rfl gw_none (ov_field fo44_1 rfl) rfl ?_
            first | refine qe_val rfl gw_none (ov_load 0 sc3 rfl rfl rfl) rfl ?_ | refine qe_val rfl gw_none (ov_load 0 sc3 rfl rfl (by assumption)) rfl ?_
            refine qe_callsl (ι := Nat × List Value) (fun i bo => sv bo 8 i.1) (fun i => ints (bfE (-1) xs (daF (ways (-1) xs) st (ord.take k)).2.toNat) ++ i.2) (fun i bo => Sl 1 bo 8 i.1 (ints (bfE (-1) xs (daF (ways (-1) xs) st (ord.take k)).2.toNat)) i.2) rfl goes62 rfl (fun w1 hp => l24Ways_c xs (daF (ways (-1) xs) st (ord.take k)).2 (-1) (daF (ways (-1) xs) st (ord.take k)).2.toNat _ _ (by unfold In64; omega) (by omega) (by omega) hok (hsxs.ext hp.ext0)) rfl (fun iwy bowy hswy => ?_)
            obtain ⟨bwy, rfl⟩ := slSome hswy (by omega)
            first | refine qe_val rfl gw_none (ov_ix Try.underlying39 sz3 rfl rfl _ rfl (by omega)) rfl ?_ | refine qe_val rfl gw_none (ov_ix Try.underlying39 sz3 rfl rfl (k) (by omega) (by omega)) rfl ?_ | refine qe_val rfl gw_none (ov_ix Try.underlying39 sz3 rfl rfl ((daF (ways (-1) xs) st (ord.take k)).2.toNat) (by omega) (by omega)) rfl ?_ | refine qe_val rfl gw_none (ov_ix Try.underlying39 sz3 rfl rfl (x.town.toNat) (by omega) (by omega)) rfl ?_ | refine qe_val rfl gw_none (ov_ix Try.underlying39 sz3 rfl rfl (i.toNat) (by omega) (by omega)) rfl ?_
            refine qe_val rfl gw_none (ov_load 0 sc3 rfl rfl (bfAt hR hat8 hxt8 _)) rfl ?_
            refine qe_val rfl gw_none (ov_add rfl rfl (by omega)) rfl ?_
            refine qe_nil ?_
            refine rl_val gw_none (ov_add rfl rfl (by omega)) rfl ?_
            refine rl_val gw_none (ov_assign rfl) rfl ?_
            refine rl_nil ?_
            refine at_then ?_
            refine ct_reg ?_
            refine rl_val gw_none (ov_field fo44_0 rfl) rfl ?_
            first | refine rl_val gw_none (ov_load 1 sc3 rfl rfl rfl) rfl ?_ | refine rl_val gw_none (ov_load 1 sc3 rfl rfl (by assumption)) rfl ?_
            refine rl_val gw_none (ov_assign rfl) rfl ?_
            refine rl_nil ?_
            refine at_block ?_
            refine at_then ?_
            refine ct_reg ?_
            refine rl_val gw_none (ov_move rfl) rfl ?_
            refine rl_val gw_none (ov_add rfl rfl (by omega)) rfl ?_
            refine rl_val gw_none (ov_assign rfl) rfl ?_
            refine rl_nil ?_
            have hok2 : okI st ord k = true := by rw [hik, hib0, show hasL (ord.take k) i = false by first | (simpa using h3; done) | (simpa [hasL] using h3; done)]; rfl
            exact at_backR (k + 1) ⟨hk2, fun j hj => by by_cases hjk : j = k; exact hjk ▸ hok2; exact hall j (by omega), by omega, by omega⟩ (by first | exact True.intro | omega | (dsimp only; omega) | (dsimp only at *; omega)) (by (repeat' (first | exact Sub.nil | refine Sub.cons ?_ ?_)); all_goals (first | rfl | exact lkInt rfl (by omega))) (Sub.cons rfl (Sub.cons rfl (Sub.cons rfl Sub.nil))) (fun _ hq => hq.drop.drop)
      ·
        have hke : k = ord.length := by omega
        subst hke
        rw [List.take_length] at hS0 hS1
        have hk7 := okI_len (Nat.le_refl _) hall
        refine ct_exit ?_
        refine at_then_exit ?_
        refine at_then_exit ?_
        refine at_block_hit ?_
        refine at_then ?_
        refine ct_seq ?_
        refine ct_seq ?_
        refine ct_reg ?_
        refine rl_val gw_none (ov_move rfl) rfl ?_
        refine rl_val gw_none (ov_geq rfl rfl) rfl ?_
        refine rl_nil ?_
        refine at_then ?_
        first | refine ct_dec rfl (fun h4 => ?_) (fun h4 => ?_) | refine ct_ndec rfl (fun h4 => ?_) (fun h4 => ?_) | refine ct_eq rfl (fun h4 => ?_) (fun h4 => ?_) | refine ct_ne rfl (fun h4 => ?_) (fun h4 => ?_) | refine ct_not rfl (fun h4 => ?_) (fun h4 => ?_) | refine ct_cond rfl (fun h4 => ?_) (fun h4 => ?_)
        ·
          refine ct_seq ?_
          refine ct_reg ?_
          refine rl_val gw_none (ov_assign rfl) rfl ?_
          refine rl_val gw_none (ov_assign rfl) rfl ?_
          refine rl_nil ?_
          refine at_then ?_
          refine ct_ret ?_
          refine at_then_ret ?_
          refine at_ret2 Try.results20 (ro_tmp rfl) (ro_tmp rfl) (fun w1 hp => ?_)
          refine ⟨?_, hp.ext0⟩
          first | (have hb : daB xs st ord = false := daB_no (.inl (by simpa [roadsB] using g1)); rw [daR_no hb, hb]; done) | (have hb : daB xs st ord = false := daB_no (.inr (.inl (by simpa [staysB] using h1))); rw [daR_no hb, hb]; done) | (have hb : daB xs st ord = false := daB_no (.inr (.inr (.inl (daV_no hk2 (by rw [hik, show inB i 0 ((st.length : Int) - 1) = false by simpa using g2]; rfl))))); rw [daR_no hb, hb]; done) | (have hb : daB xs st ord = false := daB_no (.inr (.inr (.inl (daV_no hk2 (by rw [hik, show hasL (ord.take k) i = true by first | (simpa using h3; done) | (simpa [hasL] using h3; done)]; simp))))); rw [daR_no hb, hb]; done) | (have hb : daB xs st ord = false := daB_no (.inr (.inr (.inr (by rw [List.take_length] at h4; omega)))); rw [daR_no hb, hb]; done) | (rw [List.take_length] at h4 ⊢; have hb := daB_yes hrB hsB hall (by omega); rw [daR_yes hb, hb]; done)
        ·
          refine ct_skip ?_
          refine at_then ?_
          refine ct_seq ?_
          refine ct_reg ?_
          refine rl_val gw_none (ov_move rfl) rfl ?_
          refine rl_val gw_none (ov_assign rfl) rfl ?_
          refine rl_val gw_none (ov_assign rfl) rfl ?_
          refine rl_nil ?_
          refine at_then ?_
          refine ct_ret ?_
          refine at_ret2 Try.results20 (ro_tmp rfl) (ro_tmp rfl) (fun w1 hp => ?_)
          refine ⟨?_, hp.ext0⟩
          first | (have hb : daB xs st ord = false := daB_no (.inl (by simpa [roadsB] using g1)); rw [daR_no hb, hb]; done) | (have hb : daB xs st ord = false := daB_no (.inr (.inl (by simpa [staysB] using h1))); rw [daR_no hb, hb]; done) | (have hb : daB xs st ord = false := daB_no (.inr (.inr (.inl (daV_no hk2 (by rw [hik, show inB i 0 ((st.length : Int) - 1) = false by simpa using g2]; rfl))))); rw [daR_no hb, hb]; done) | (have hb : daB xs st ord = false := daB_no (.inr (.inr (.inl (daV_no hk2 (by rw [hik, show hasL (ord.take k) i = true by first | (simpa using h3; done) | (simpa [hasL] using h3; done)]; simp))))); rw [daR_no hb, hb]; done) | (have hb : daB xs st ord = false := daB_no (.inr (.inr (.inr (by rw [List.take_length] at h4; omega)))); rw [daR_no hb, hb]; done) | (rw [List.take_length] at h4 ⊢; have hb := daB_yes hrB hsB hall (by omega); rw [daR_yes hb, hb]; done)
end Go.Proofs.Ytgnnlgmeagipjaa
