import Derived.Test.YtgnnlgmeagipjaaGa
import Derived.Test.YtgnnlgmeagipjaaVc
import Derived.Test.YtgnnlgmeagipjaaTg
import Derived.KernelRfl
set_option linter.unusedVariables false
set_option linter.unusedSimpArgs false
namespace Go.Proofs.Ytgnnlgmeagipjaa
open Go Go.RowKit K
theorem l24Held_c (xs : List Road) (st : List Stay) (vxs : Value) (vst : Value) (w : World) (hGxs : ∀ y ∈ xs, GRoad y) (hsxs : SR w 3 vxs xs.length (flat encRoad xs)) (hGst : ∀ y ∈ st, GStay y) (hsst : SR w 3 vst st.length (flat encStay st)) (hR : OkR xs) (hsB : staysB st = true) : Calls Try.prog 42 ([vxs, vst]).toArray w (fun e w' => ∃ q : Option Nat × Nat × List Value × List Nat, (q.2.2.2.length = 2 ^ st.length ∧ Sl 1 q.1 (oVals st.length q.2.2.2).length q.2.1 (vls (oVals st.length q.2.2.2)) q.2.2.1) ∧ e = .returned (sv q.1 (oVals st.length q.2.2.2).length q.2.1) ∧ Hp ⟨w, []⟩ ((q.1, 39, vls (oVals st.length q.2.2.2) ++ q.2.2.1) :: oEnts 3 (ways (-1) xs) st q.2.2.2) w') := by
  obtain ⟨axs, capxs, rfl, hcapxs, hmaxxs⟩ := hsxs.slice
  have hlenxs := hsxs.len_le
  obtain ⟨ast, capst, rfl, hcapst, hmaxst⟩ := hsst.slice
  have hlenst := hsst.len_le
  have hok := hR.1
  have hst7 : st.length ≤ 7 := listB_len hsB
  have hpw := pow_le128 st.length (by omega)
  refine calls_ct Try.func42 Try.ntmps42 rfl rfl ?_
  refine ct_seq ?_
  refine ct_reg ?_
  refine rl_val gw_none (ov_assign rfl) rfl ?_
  refine rl_nil ?_
  refine at_then ?_
  refine ct_seq ?_
  refine ct_reg ?_
  refine rl_val gw_none (ov_move rfl) rfl ?_
  refine rl_val gw_none (ov_len Try.underlying30 rfl) rfl ?_
  refine rl_val gw_none (ov_assign rfl) rfl ?_
  refine rl_nil ?_
  refine at_then ?_
  refine ct_seq ?_
  refine ct_reg ?_
  refine rl_val gw_none (ov_move rfl) rfl ?_
  refine rl_callsl (ι := Nat × List Value) (fun i bo => sv bo 8 i.1) (fun i => ints (bfE (-1) xs 0) ++ i.2) (fun i bo => Sl 1 bo 8 i.1 (ints (bfE (-1) xs 0)) i.2) goes62 rfl (fun w1 hp => l24Ways_c xs 0 (-1) 0 _ _ (by unfold In64; omega) rfl (by omega) hok (hsxs.ext hp.ext0)) rfl (fun is0 bos0 hss0 => ?_)
  obtain ⟨bs0, rfl⟩ := slSome hss0 (by omega)
  refine rl_val gw_none (ov_assign rfl) rfl ?_
  refine rl_nil ?_
  refine at_then ?_
  refine ct_seq ?_
  refine ct_reg ?_
  refine rl_bslice Try.underlying61 ze39 sz39 rfl rfl rfl rfl rfl rfl (fun N1 => ?_)
  refine rl_val gw_none (ov_assign rfl) rfl ?_
  refine rl_nil ?_
  refine at_then ?_
  refine ct_seq ?_
  refine ct_seq ?_
  refine ct_reg ?_
  refine rl_val gw_none (ov_assign rfl) rfl ?_
  refine rl_nil ?_
  refine at_then ?_
  refine ct_block ?_
  refine ct_loopR (ι := Option Nat × Nat × List Value × List (Nat × Nat × List Value)) (fun p1 => [(7, sv p1.1 (wVals p1.2.2.2).length p1.2.1), (8, .int .i64 (p1.2.2.2.length : Int))]) [(0, _), (1, _), (4, _), (5, _), (6, _)] (fun p1 => (p1.1, 39, vls (wVals p1.2.2.2) ++ p1.2.2.1) :: _ :: wEnts 3 xs st p1.2.2.2) (fun p1 => p1.2.2.2.length ≤ st.length ∧ Sl 1 p1.1 (wVals p1.2.2.2).length p1.2.1 (vls (wVals p1.2.2.2)) p1.2.2.1) (fun p1 => st.length - p1.2.2.2.length) ((some N1, 0, [], [])) (Sub.cons rfl (Sub.cons rfl (Sub.cons rfl (Sub.cons rfl (Sub.cons rfl Sub.nil))))) (fun _ hq => hq) (by (repeat' (first | exact Sub.nil | refine Sub.cons ?_ ?_)); all_goals (first | rfl | exact lkInt rfl (by omega))) ⟨Nat.zero_le _, Sl.lit rfl (Nat.zero_le _)⟩ (fun p1 hp1 => ?_)
  obtain ⟨bo1, cap1, pad1, ws⟩ := p1
  obtain ⟨hwl1, hsl1⟩ := hp1
  dsimp only at hwl1 hsl1
  try dsimp only
  have hwvl := wVals_len ws
  refine ct_seq ?_
  refine ct_seq ?_
  refine ct_reg ?_
  refine rl_val gw_none (ov_move rfl) rfl ?_
  refine rl_val gw_none (ov_move rfl) rfl ?_
  refine rl_val gw_none (ov_lss rfl rfl) rfl ?_
  refine rl_nil ?_
  refine at_then ?_
  first | refine ct_dec rfl (fun h1 => ?_) (fun h1 => ?_) | refine ct_ndec rfl (fun h1 => ?_) (fun h1 => ?_) | refine ct_eq rfl (fun h1 => ?_) (fun h1 => ?_) | refine ct_ne rfl (fun h1 => ?_) (fun h1 => ?_) | refine ct_not rfl (fun h1 => ?_) (fun h1 => ?_) | refine ct_cond rfl (fun h1 => ?_) (fun h1 => ?_)
  ·
    have hk2 : ws.length < st.length := by omega
    obtain ⟨b2, o2, rfl, hel2⟩ := hsst.elem encStay_len (by omega) hk2
    have hx := getLt hk2
    generalize st[ws.length] = x at *
    obtain ⟨c0, c1, c2, _⟩ := hel2 _ x hx
    have hxb := stay_at hsB hx
    have hxi : st[((ws.length : Nat) : Int).toNat]? = some x := by rw [Int.toNat_natCast]; exact hx
    have htn : twN st (ws.length) = x.town.toNat := by unfold twN; rw [tw_eq hxi]
    have hdy := dy_eq hxi
    have hfe := fe_eq hxi
    have hxt8 : x.town.toNat < 8 := by omega
    refine ct_skip ?_
    refine at_then ?_
    refine ct_seq ?_
    refine ct_block ?_
    refine ct_reg ?_
    refine rl_val gw_none (ov_move rfl) rfl ?_
    refine rl_val gw_none (ov_move rfl) rfl ?_
    refine rl_val gw_none (ov_move rfl) rfl ?_
    refine rl_val gw_none (ov_move rfl) rfl ?_
    first | refine rl_val gw_none (ov_ix Try.underlying30 sz44 rfl rfl _ rfl (by omega)) rfl ?_ | refine rl_val gw_none (ov_ix Try.underlying30 sz44 rfl rfl (k) (by omega) (by omega)) rfl ?_ | refine rl_val gw_none (ov_ix Try.underlying30 sz44 rfl rfl (i) (by omega) (by omega)) rfl ?_ | refine rl_val gw_none (ov_ix Try.underlying30 sz44 rfl rfl (x.town.toNat) (by omega) (by omega)) rfl ?_ | refine rl_val gw_none (ov_ix Try.underlying30 sz44 rfl rfl (os.length - 2 ^ i) (by omega) (by omega)) rfl ?_
    refine rl_val gw_none (ov_field fo44_0 rfl) rfl ?_
    first | refine rl_val gw_none (ov_load 0 sc3 rfl rfl rfl) rfl ?_ | refine rl_val gw_none (ov_load 1 sc3 rfl rfl rfl) rfl ?_ | refine rl_val gw_none (ov_load 2 sc3 rfl rfl rfl) rfl ?_ | refine rl_val gw_none (ov_load 3 sc3 rfl rfl rfl) rfl ?_ | refine rl_val gw_none (ov_loadw sc3 rfl (by assumption)) rfl ?_ | refine rl_val gw_none (ov_load 0 sc3 rfl rfl (by assumption)) rfl ?_ | refine rl_val gw_none (ov_load 1 sc3 rfl rfl (by assumption)) rfl ?_ | refine rl_val gw_none (ov_load 2 sc3 rfl rfl (by assumption)) rfl ?_ | refine rl_val gw_none (ov_load 3 sc3 rfl rfl (by assumption)) rfl ?_
    refine rl_callsl (ι := Nat × List Value) (fun i bo => sv bo 8 i.1) (fun i => ints (bfE (-1) xs x.town.toNat) ++ i.2) (fun i bo => Sl 1 bo 8 i.1 (ints (bfE (-1) xs x.town.toNat)) i.2) goes62 rfl (fun w1 hp => l24Ways_c xs x.town (-1) x.town.toNat _ _ (by unfold In64; omega) (by omega) hxt8 hok (hsxs.ext hp.ext0)) rfl (fun iwy bowy hswy => ?_)
    obtain ⟨bwy, rfl⟩ := slSome hswy (by omega)
    refine rl_bslice Try.underlying61 ze39 sz39 rfl rfl rfl rfl rfl rfl (fun N2 => ?_)
    refine rl_appT (vls) (vls_append) [_, _] (acc := wVals ws) Try.underlying61 ze39 sz39 rfl rfl by39 rfl rfl rfl hsl1 ([.slice (some ⟨bwy, 0, none⟩) 8 iwy.1]) rfl (fun w1 hp => hp.sr1 0 rfl rfl (by decide)) (list_one rfl) (by unfold maxLen; omega) (by omega) rfl (fun boq1 capq1 padq1 hsq1 => ?_)
    refine rl_val gw_none (ov_assign rfl) rfl ?_
    refine rl_nil ?_
    refine at_block ?_
    refine at_then ?_
    refine ct_reg ?_
    refine rl_val gw_none (ov_move rfl) rfl ?_
    refine rl_val gw_none (ov_add rfl rfl (by omega)) rfl ?_
    refine rl_val gw_none (ov_assign rfl) rfl ?_
    refine rl_nil ?_
    exact at_backR (boq1, capq1, padq1, (bwy, iwy.1, iwy.2) :: ws) ⟨by dsimp only [List.length_cons]; omega, by dsimp only; rw [wVals_cons]; exact hsq1⟩ (by simp only [List.length_cons]; omega) (by dsimp only; rw [wVals_cons]; (repeat' (first | exact Sub.nil | refine Sub.cons ?_ ?_)); all_goals (first | rfl | exact lkInt rfl (by simp) | exact lkInt rfl (by omega))) (Sub.cons rfl (Sub.cons rfl (Sub.cons rfl (Sub.cons rfl (Sub.cons rfl Sub.nil))))) (fun _ hp => (((Hp.pull (Hp.pull (Hp.pull (Hp.pull hp 1 rfl) 3 rfl) 3 rfl) 3 rfl).drop)).cong (by dsimp only; rw [wVals_cons, wEnts, htn]; rfl))
  ·
    have hwe : ws.length = st.length := by omega
    refine ct_exit ?_
    refine at_then_exit ?_
    refine at_then_exit ?_
    refine at_block_hit ?_
    refine at_then ?_
    refine ct_seq ?_
    refine ct_reg ?_
    refine rl_bslice Try.underlying61 ze39 sz39 rfl rfl rfl rfl rfl rfl (fun N3 => ?_)
    refine rl_val gw_none (ov_assign rfl) rfl ?_
    refine rl_nil ?_
    refine at_then ?_
    refine ct_seq ?_
    refine ct_seq ?_
    refine ct_reg ?_
    refine rl_val gw_none (ov_assign rfl) rfl ?_
    refine rl_nil ?_
    refine at_then ?_
    refine ct_block ?_
    refine ct_loopR (ι := Option Nat × Nat × List Value × List Nat) (fun p2 => [(9, sv p2.1 (oVals st.length p2.2.2.2).length p2.2.1), (10, .int .i64 (p2.2.2.2.length : Int))]) [(1, _), (4, _), (5, _), (6, _), (7, _)] (fun p2 => (p2.1, 39, vls (oVals st.length p2.2.2.2) ++ p2.2.2.1) :: _ :: _ :: (oEnts 3 (ways (-1) xs) st p2.2.2.2 ++ wEnts 3 xs st ws)) (fun p2 => p2.2.2.2.length ≤ 2 ^ st.length ∧ Sl 1 p2.1 (oVals st.length p2.2.2.2).length p2.2.1 (vls (oVals st.length p2.2.2.2)) p2.2.2.1) (fun p2 => 2 ^ st.length - p2.2.2.2.length) ((some N3, 0, [], [])) (Sub.cons rfl (Sub.cons rfl (Sub.cons rfl (Sub.cons rfl (Sub.cons rfl Sub.nil))))) (fun _ hq => hq) (by (repeat' (first | exact Sub.nil | refine Sub.cons ?_ ?_)); all_goals (first | rfl | exact lkInt rfl (by omega))) ⟨Nat.zero_le _, Sl.lit rfl (Nat.zero_le _)⟩ (fun p2 hp2 => ?_)
    obtain ⟨bo2, cap2, pad2, os⟩ := p2
    obtain ⟨hol2, hsl2⟩ := hp2
    dsimp only at hol2 hsl2
    try dsimp only
    have hovl := oVals_len st.length os
    refine ct_seq ?_
    refine ct_seq ?_
    refine ct_reg ?_
    refine rl_val gw_none (ov_move rfl) rfl ?_
    refine rl_val gw_none (ov_move rfl) rfl ?_
    refine rl_val gw_none (ov_convint Try.underlying3 Try.underlying79 rfl) rfl ?_
    refine rl_val gw_none (ov_shl1 rfl rfl st.length (u64_natE rfl (by omega)) (by omega)) rfl ?_
    refine rl_val gw_none (ov_lss rfl rfl) rfl ?_
    refine rl_nil ?_
    refine at_then ?_
    first | refine ct_dec rfl (fun h2 => ?_) (fun h2 => ?_) | refine ct_ndec rfl (fun h2 => ?_) (fun h2 => ?_) | refine ct_eq rfl (fun h2 => ?_) (fun h2 => ?_) | refine ct_ne rfl (fun h2 => ?_) (fun h2 => ?_) | refine ct_not rfl (fun h2 => ?_) (fun h2 => ?_) | refine ct_cond rfl (fun h2 => ?_) (fun h2 => ?_)
    ·
      have hb2 : os.length < 2 ^ st.length := by omega
      refine ct_skip ?_
      refine at_then ?_
      refine ct_seq ?_
      refine ct_block ?_
      refine ct_seq ?_
      refine ct_reg ?_
      refine rl_val gw_none (ov_move rfl) rfl ?_
      refine rl_make Try.underlying39 ze3 sz3 by3 rfl rfl (by omega) (by unfold maxLen; omega) rfl (fun N4 => ?_)
      refine rl_val gw_none (ov_assign rfl) rfl ?_
      refine rl_nil ?_
      refine at_then ?_
      refine ct_seq ?_
      refine ct_seq ?_
      refine ct_reg ?_
      refine rl_val gw_none (ov_assign rfl) rfl ?_
      refine rl_nil ?_
      refine at_then ?_
      refine ct_block ?_
      refine ct_loopR (ι := Nat) (fun i => [(12, .int .i64 i)]) [(1, _), (4, _), (5, _), (6, _), (7, _), (9, _), (10, _), (11, _)] (fun i => (some N4, 3, ints (rI (ways (-1) xs) st os.length i)) :: _) (fun i => i ≤ st.length) (fun i => st.length - i) (0) (Sub.cons rfl (Sub.cons rfl (Sub.cons rfl (Sub.cons rfl (Sub.cons rfl (Sub.cons rfl (Sub.cons rfl (Sub.cons rfl Sub.nil)))))))) (fun _ hq => hq.cong (congrArg (fun z => (some N4, 3, z) :: _) (by rw [flat_zero, rI_zero]))) (by (repeat' (first | exact Sub.nil | refine Sub.cons ?_ ?_)); all_goals (first | rfl | exact lkInt rfl (by omega))) (by first | exact True.intro | omega | (dsimp only; omega) | (dsimp only at *; omega)) (fun i hi => ?_)
      refine ct_seq ?_
      refine ct_seq ?_
      refine ct_reg ?_
      refine rl_val gw_none (ov_move rfl) rfl ?_
      refine rl_val gw_none (ov_move rfl) rfl ?_
      refine rl_val gw_none (ov_lss rfl rfl) rfl ?_
      refine rl_nil ?_
      refine at_then ?_
      first | refine ct_dec rfl (fun h3 => ?_) (fun h3 => ?_) | refine ct_ndec rfl (fun h3 => ?_) (fun h3 => ?_) | refine ct_eq rfl (fun h3 => ?_) (fun h3 => ?_) | refine ct_ne rfl (fun h3 => ?_) (fun h3 => ?_) | refine ct_not rfl (fun h3 => ?_) (fun h3 => ?_) | refine ct_cond rfl (fun h3 => ?_) (fun h3 => ?_)
      ·
        have hi2 : i < st.length := by omega
        obtain ⟨b2, o2, rfl, hel2⟩ := hsst.elem encStay_len (by omega) hi2
        have hx := getLt hi2
        generalize st[i] = x at *
        obtain ⟨c0, c1, c2, _⟩ := hel2 _ x hx
        have hxb := stay_at hsB hx
        have hxi : st[((i : Nat) : Int).toNat]? = some x := by rw [Int.toNat_natCast]; exact hx
        have htn : twN st (i) = x.town.toNat := by unfold twN; rw [tw_eq hxi]
        have hdy := dy_eq hxi
        have hfe := fe_eq hxi
        have hxt8 : x.town.toNat < 8 := by omega
        refine ct_skip ?_
        refine at_then ?_
        refine ct_seq ?_
        refine ct_block ?_
        refine ct_seq ?_
        refine ct_reg ?_
        refine rl_val gw_none (ov_move rfl) rfl ?_
        refine rl_val gw_none (ov_move rfl) rfl ?_
        first | refine rl_val gw_none (ov_ix Try.underlying39 sz3 rfl rfl _ rfl (by omega)) rfl ?_ | refine rl_val gw_none (ov_ix Try.underlying39 sz3 rfl rfl (k) (by omega) (by omega)) rfl ?_ | refine rl_val gw_none (ov_ix Try.underlying39 sz3 rfl rfl (i) (by omega) (by omega)) rfl ?_ | refine rl_val gw_none (ov_ix Try.underlying39 sz3 rfl rfl (x.town.toNat) (by omega) (by omega)) rfl ?_ | refine rl_val gw_none (ov_ix Try.underlying39 sz3 rfl rfl (os.length - 2 ^ i) (by omega) (by omega)) rfl ?_
        refine rl_store [] sz3 rfl rfl rfl rfl rfl (by rw [ints_length, rI_len (by omega)]; omega) ?_
        refine rl_mem (fun _ hq => hq.cong (congrArg (fun x => (_, _, x) :: _) (intsPut (p := i) _ (by rw [rI_len (by omega)]; omega) (by omega)))) ?_
        refine rl_nil ?_
        refine at_then ?_
        refine ct_seq ?_
        refine ct_seq ?_
        refine ct_reg ?_
        refine rl_val gw_none (ov_move rfl) rfl ?_
        refine rl_val gw_none (ov_move rfl) rfl ?_
        refine rl_val gw_none (ov_convint Try.underlying3 Try.underlying79 rfl) rfl ?_
        refine rl_val gw_none (ov_shrN (b := os.length) rfl rfl i (u64_natE rfl (by omega)) (by omega)) rfl ?_
        refine rl_val gw_none (ov_and1 (b := os.length / 2 ^ i) rfl rfl) rfl ?_
        refine rl_val gw_none (ov_eql rfl rfl) rfl ?_
        refine rl_nil ?_
        refine at_then ?_
        first | refine ct_dec rfl (fun h4 => ?_) (fun h4 => ?_) | refine ct_ndec rfl (fun h4 => ?_) (fun h4 => ?_) | refine ct_eq rfl (fun h4 => ?_) (fun h4 => ?_) | refine ct_ne rfl (fun h4 => ?_) (fun h4 => ?_) | refine ct_not rfl (fun h4 => ?_) (fun h4 => ?_) | refine ct_cond rfl (fun h4 => ?_) (fun h4 => ?_)
        ·
          skip
          refine ct_exit ?_
          refine at_then_exit ?_
          refine at_block_hit ?_
          refine at_then ?_
          refine ct_reg ?_
          refine rl_val gw_none (ov_move rfl) rfl ?_
          refine rl_val gw_none (ov_add rfl rfl (by omega)) rfl ?_
          refine rl_val gw_none (ov_assign rfl) rfl ?_
          refine rl_nil ?_
          exact at_backR (i + 1) (by first | exact True.intro | omega | (dsimp only; omega) | (dsimp only at *; omega)) (by first | exact True.intro | omega | (dsimp only; omega) | (dsimp only at *; omega)) (by (repeat' (first | exact Sub.nil | refine Sub.cons ?_ ?_)); all_goals (first | rfl | exact lkInt rfl (by omega))) (Sub.cons rfl (Sub.cons rfl (Sub.cons rfl (Sub.cons rfl (Sub.cons rfl (Sub.cons rfl (Sub.cons rfl (Sub.cons rfl Sub.nil)))))))) (fun _ hq => hq.cong (congrArg (fun z => (some N4, 3, ints z) :: _) (by first | exact rI_no (by omega) (by omega) rfl | exact rI_one (by omega) hb1 (by omega) (by rw [htn, hdy]) | exact rI_leg (by omega) hb1 (by omega))))
        ·
          have hb1 : os.length / 2 ^ i % 2 ≠ 0 := by omega
          have h2i : 0 < 2 ^ i := Nat.pow_pos (by decide)
          obtain ⟨hle2, _⟩ := sub_bit os.length (by omega) i (by omega) hb1
          have hg0 := ways_bd (wo := -1) hR (show 0 < 8 by omega) hxt8
          refine ct_skip ?_
          refine at_then ?_
          refine ct_seq ?_
          refine ct_reg ?_
          refine rl_val gw_none (ov_move rfl) rfl ?_
          refine rl_val gw_none (ov_move rfl) rfl ?_
          refine rl_val gw_none (ov_convint Try.underlying3 Try.underlying79 rfl) rfl ?_
          refine rl_val gw_none (ov_shl1 rfl rfl i (u64_natE rfl (by omega)) (by omega)) rfl ?_
          refine rl_val gw_none (ov_sub rfl rfl (by omega)) rfl ?_
          refine rl_val gw_none (ov_assign rfl) rfl ?_
          refine rl_nil ?_
          refine at_then ?_
          refine ct_seq ?_
          refine ct_seq ?_
          refine ct_reg ?_
          refine rl_val gw_none (ov_move rfl) rfl ?_
          refine rl_val gw_none (ov_eql rfl rfl) rfl ?_
          refine rl_nil ?_
          refine at_then ?_
          first | refine ct_dec rfl (fun h5 => ?_) (fun h5 => ?_) | refine ct_ndec rfl (fun h5 => ?_) (fun h5 => ?_) | refine ct_eq rfl (fun h5 => ?_) (fun h5 => ?_) | refine ct_ne rfl (fun h5 => ?_) (fun h5 => ?_) | refine ct_not rfl (fun h5 => ?_) (fun h5 => ?_) | refine ct_cond rfl (fun h5 => ?_) (fun h5 => ?_)
          ·
            refine ct_dr 18 (by kernel_rfl) (by kernel_rfl) ?_
            refine ql_val gw_none (ov_move rfl) rfl ?_
            refine ql_val gw_none (ov_move rfl) rfl ?_
            refine ql_val gw_none (ov_move rfl) rfl ?_
            refine ql_val gw_none (ov_move rfl) rfl ?_
            refine ql_val gw_none (ov_move rfl) rfl ?_
            first | refine ql_val gw_none (ov_ix Try.underlying30 sz44 rfl rfl _ rfl (by omega)) rfl ?_ | refine ql_val gw_none (ov_ix Try.underlying30 sz44 rfl rfl (k) (by omega) (by omega)) rfl ?_ | refine ql_val gw_none (ov_ix Try.underlying30 sz44 rfl rfl (i) (by omega) (by omega)) rfl ?_ | refine ql_val gw_none (ov_ix Try.underlying30 sz44 rfl rfl (x.town.toNat) (by omega) (by omega)) rfl ?_ | refine ql_val gw_none (ov_ix Try.underlying30 sz44 rfl rfl (os.length - 2 ^ i) (by omega) (by omega)) rfl ?_
            refine ql_val gw_none (ov_field fo44_0 rfl) rfl ?_
            first | refine ql_val gw_none (ov_load 0 sc3 rfl rfl rfl) rfl ?_ | refine ql_val gw_none (ov_load 1 sc3 rfl rfl rfl) rfl ?_ | refine ql_val gw_none (ov_load 2 sc3 rfl rfl rfl) rfl ?_ | refine ql_val gw_none (ov_load 3 sc3 rfl rfl rfl) rfl ?_ | refine ql_val gw_none (ov_loadw sc3 rfl (by assumption)) rfl ?_ | refine ql_val gw_none (ov_load 0 sc3 rfl rfl (by assumption)) rfl ?_ | refine ql_val gw_none (ov_load 1 sc3 rfl rfl (by assumption)) rfl ?_ | refine ql_val gw_none (ov_load 2 sc3 rfl rfl (by assumption)) rfl ?_ | refine ql_val gw_none (ov_load 3 sc3 rfl rfl (by assumption)) rfl ?_
            first | refine ql_val gw_none (ov_ix Try.underlying39 sz3 rfl rfl _ rfl (by omega)) rfl ?_ | refine ql_val gw_none (ov_ix Try.underlying39 sz3 rfl rfl (k) (by omega) (by omega)) rfl ?_ | refine ql_val gw_none (ov_ix Try.underlying39 sz3 rfl rfl (i) (by omega) (by omega)) rfl ?_ | refine ql_val gw_none (ov_ix Try.underlying39 sz3 rfl rfl (x.town.toNat) (by omega) (by omega)) rfl ?_ | refine ql_val gw_none (ov_ix Try.underlying39 sz3 rfl rfl (os.length - 2 ^ i) (by omega) (by omega)) rfl ?_
            refine ql_val gw_none (ov_load 3 sc3 rfl rfl (bfAt hR (show 0 < 8 by omega) hxt8 _)) rfl ?_
            refine ql_val gw_none (ov_move rfl) rfl ?_
            refine ql_val gw_none (ov_move rfl) rfl ?_
            first | refine ql_val gw_none (ov_ix Try.underlying30 sz44 rfl rfl _ rfl (by omega)) rfl ?_ | refine ql_val gw_none (ov_ix Try.underlying30 sz44 rfl rfl (k) (by omega) (by omega)) rfl ?_ | refine ql_val gw_none (ov_ix Try.underlying30 sz44 rfl rfl (i) (by omega) (by omega)) rfl ?_ | refine ql_val gw_none (ov_ix Try.underlying30 sz44 rfl rfl (x.town.toNat) (by omega) (by omega)) rfl ?_ | refine ql_val gw_none (ov_ix Try.underlying30 sz44 rfl rfl (os.length - 2 ^ i) (by omega) (by omega)) rfl ?_
            refine ql_val gw_none (ov_field fo44_1 rfl) rfl ?_
            first | refine ql_val gw_none (ov_load 0 sc3 rfl rfl rfl) rfl ?_ | refine ql_val gw_none (ov_load 1 sc3 rfl rfl rfl) rfl ?_ | refine ql_val gw_none (ov_load 2 sc3 rfl rfl rfl) rfl ?_ | refine ql_val gw_none (ov_load 3 sc3 rfl rfl rfl) rfl ?_ | refine ql_val gw_none (ov_loadw sc3 rfl (by assumption)) rfl ?_ | refine ql_val gw_none (ov_load 0 sc3 rfl rfl (by assumption)) rfl ?_ | refine ql_val gw_none (ov_load 1 sc3 rfl rfl (by assumption)) rfl ?_ | refine ql_val gw_none (ov_load 2 sc3 rfl rfl (by assumption)) rfl ?_ | refine ql_val gw_none (ov_load 3 sc3 rfl rfl (by assumption)) rfl ?_
            refine ql_val gw_none (ov_add rfl rfl (by omega)) rfl ?_
            refine ql_callv gw_none goes43 rfl (fun w1 hp => l1Least_c _ _ _) rfl ?_
            first | refine ql_val gw_none (ov_ix Try.underlying39 sz3 rfl rfl _ rfl (by omega)) rfl ?_ | refine ql_val gw_none (ov_ix Try.underlying39 sz3 rfl rfl (k) (by omega) (by omega)) rfl ?_ | refine ql_val gw_none (ov_ix Try.underlying39 sz3 rfl rfl (i) (by omega) (by omega)) rfl ?_ | refine ql_val gw_none (ov_ix Try.underlying39 sz3 rfl rfl (x.town.toNat) (by omega) (by omega)) rfl ?_ | refine ql_val gw_none (ov_ix Try.underlying39 sz3 rfl rfl (os.length - 2 ^ i) (by omega) (by omega)) rfl ?_
            refine ql_nil ?_
            refine rl_store [] sz3 rfl rfl rfl rfl rfl (by rw [ints_length, List.length_set, rI_len (by omega)]; omega) ?_
            refine rl_mem (fun _ hq => hq.cong (congrArg (fun x => (_, _, x) :: _) (intsPut (p := i) _ (by rw [List.length_set, rI_len (by omega)]; omega) (by omega)))) ?_
            refine rl_nil ?_
            refine at_then ?_
            refine ct_seq ?_
            refine ct_reg ?_
            refine rl_val gw_none (ov_assign rfl) rfl ?_
            refine rl_nil ?_
            refine at_then ?_
            refine ct_block ?_
            refine ct_loopR (ι := Nat) (fun k => [(14, .int .i64 k)]) [(1, _), (4, _), (5, _), (6, _), (7, _), (9, _), (10, _), (11, _), (12, _), (13, _)] (fun _ => _) (fun k => k ≤ st.length) (fun k => st.length - k) (0) (Sub.cons rfl (Sub.cons rfl (Sub.cons rfl (Sub.cons rfl (Sub.cons rfl (Sub.cons rfl (Sub.cons rfl (Sub.cons rfl (Sub.cons rfl (Sub.cons rfl Sub.nil)))))))))) (fun _ hq => hq) (by (repeat' (first | exact Sub.nil | refine Sub.cons ?_ ?_)); all_goals (first | rfl | exact lkInt rfl (by omega))) (by first | exact True.intro | omega | (dsimp only; omega) | (dsimp only at *; omega)) (fun k hk => ?_)
            refine ct_seq ?_
            refine ct_seq ?_
            refine ct_reg ?_
            refine rl_val gw_none (ov_move rfl) rfl ?_
            refine rl_val gw_none (ov_move rfl) rfl ?_
            refine rl_val gw_none (ov_lss rfl rfl) rfl ?_
            refine rl_val gw_none (ov_move rfl) rfl ?_
            refine rl_split (t := 87) rfl (fun g1 => ?_) (fun g1 => ?_)
            ·
              have g1' := g1
              try simp only [Bool.not_eq_true', Bool.not_eq_false', Bool.not_not, decide_eq_true_eq, decide_eq_false_iff_not, beq_iff_eq, beq_eq_false_iff_ne, bne_iff_ne, bne_eq_false_iff_eq, Bool.and_eq_true, Bool.or_eq_true, Bool.and_eq_false_iff, Bool.or_eq_false_iff, inB] at g1'
              refine rl_val (gw_some rfl rfl g1) (ov_move rfl) rfl ?_
              refine rl_val (gw_some rfl rfl g1) (ov_gtr rfl rfl) rfl ?_
              refine rl_val gw_none (ov_pick_t rfl g1 rfl) rfl ?_
              refine rl_nil ?_
              refine at_then ?_
              first | refine ct_dec rfl (fun h6 => ?_) (fun h6 => ?_) | refine ct_ndec rfl (fun h6 => ?_) (fun h6 => ?_) | refine ct_eq rfl (fun h6 => ?_) (fun h6 => ?_) | refine ct_ne rfl (fun h6 => ?_) (fun h6 => ?_) | refine ct_not rfl (fun h6 => ?_) (fun h6 => ?_) | refine ct_cond rfl (fun h6 => ?_) (fun h6 => ?_)
              ·
                omega
              ·
                refine ct_exit ?_
                refine at_then_exit ?_
                refine at_then_exit ?_
                refine at_block_hit ?_
                refine at_block ?_
                refine at_then ?_
                refine ct_reg ?_
                refine rl_val gw_none (ov_move rfl) rfl ?_
                refine rl_val gw_none (ov_add rfl rfl (by omega)) rfl ?_
                refine rl_val gw_none (ov_assign rfl) rfl ?_
                refine rl_nil ?_
                exact at_backR (i + 1) (by first | exact True.intro | omega | (dsimp only; omega) | (dsimp only at *; omega)) (by first | exact True.intro | omega | (dsimp only; omega) | (dsimp only at *; omega)) (by (repeat' (first | exact Sub.nil | refine Sub.cons ?_ ?_)); all_goals (first | rfl | exact lkInt rfl (by omega))) (Sub.cons rfl (Sub.cons rfl (Sub.cons rfl (Sub.cons rfl (Sub.cons rfl (Sub.cons rfl (Sub.cons rfl (Sub.cons rfl Sub.nil)))))))) (fun _ hq => hq.cong (congrArg (fun z => (some N4, 3, ints z) :: _) (by first | exact rI_no (by omega) (by omega) rfl | exact rI_one (by omega) hb1 (by omega) (by rw [htn, hdy]) | exact rI_leg (by omega) hb1 (by omega))))
            ·
              have g1' := g1
              try simp only [Bool.not_eq_true', Bool.not_eq_false', Bool.not_not, decide_eq_true_eq, decide_eq_false_iff_not, beq_iff_eq, beq_eq_false_iff_ne, bne_iff_ne, bne_eq_false_iff_eq, Bool.and_eq_true, Bool.or_eq_true, Bool.and_eq_false_iff, Bool.or_eq_false_iff, inB] at g1'
              refine rl_skip (gw_not rfl rfl g1) rfl ?_
              refine rl_skip (gw_not rfl rfl g1) rfl ?_
              refine rl_val gw_none (ov_pick_f rfl g1 rfl) rfl ?_
              refine rl_nil ?_
              refine at_then ?_
              refine ct_false rfl rfl ?_
              refine ct_exit ?_
              refine at_then_exit ?_
              refine at_then_exit ?_
              refine at_block_hit ?_
              refine at_block ?_
              refine at_then ?_
              refine ct_reg ?_
              refine rl_val gw_none (ov_move rfl) rfl ?_
              refine rl_val gw_none (ov_add rfl rfl (by omega)) rfl ?_
              refine rl_val gw_none (ov_assign rfl) rfl ?_
              refine rl_nil ?_
              exact at_backR (i + 1) (by first | exact True.intro | omega | (dsimp only; omega) | (dsimp only at *; omega)) (by first | exact True.intro | omega | (dsimp only; omega) | (dsimp only at *; omega)) (by (repeat' (first | exact Sub.nil | refine Sub.cons ?_ ?_)); all_goals (first | rfl | exact lkInt rfl (by omega))) (Sub.cons rfl (Sub.cons rfl (Sub.cons rfl (Sub.cons rfl (Sub.cons rfl (Sub.cons rfl (Sub.cons rfl (Sub.cons rfl Sub.nil)))))))) (fun _ hq => hq.cong (congrArg (fun z => (some N4, 3, ints z) :: _) (by first | exact rI_no (by omega) (by omega) rfl | exact rI_one (by omega) hb1 (by omega) (by rw [htn, hdy]) | exact rI_leg (by omega) hb1 (by omega))))
          ·
            refine ct_skip ?_
            refine at_then ?_
            refine ct_seq ?_
            refine ct_reg ?_
            refine rl_val gw_none (ov_assign rfl) rfl ?_
            refine rl_nil ?_
            refine at_then ?_
            refine ct_block ?_
            refine ct_loopR (ι := Nat) (fun k => [(14, .int .i64 k)]) [(1, _), (4, _), (5, _), (6, _), (7, _), (9, _), (10, _), (11, _), (12, _), (13, _)] (fun k => (some N4, 3, ints ((rI (ways (-1) xs) st os.length i).set i (legP (ways (-1) xs) st (rowsH (ways (-1) xs) st os.length) (os.length - 2 ^ i) i k))) :: _) (fun k => k ≤ st.length) (fun k => st.length - k) (0) (Sub.cons rfl (Sub.cons rfl (Sub.cons rfl (Sub.cons rfl (Sub.cons rfl (Sub.cons rfl (Sub.cons rfl (Sub.cons rfl (Sub.cons rfl (Sub.cons rfl Sub.nil)))))))))) (fun _ hq => hq) (by (repeat' (first | exact Sub.nil | refine Sub.cons ?_ ?_)); all_goals (first | rfl | exact lkInt rfl (by omega))) (by first | exact True.intro | omega | (dsimp only; omega) | (dsimp only at *; omega)) (fun k hk => ?_)
            refine ct_seq ?_
            refine ct_seq ?_
            refine ct_reg ?_
            refine rl_val gw_none (ov_move rfl) rfl ?_
            refine rl_val gw_none (ov_move rfl) rfl ?_
            refine rl_val gw_none (ov_lss rfl rfl) rfl ?_
            refine rl_val gw_none (ov_move rfl) rfl ?_
            refine rl_split (t := 87) rfl (fun g2 => ?_) (fun g2 => ?_)
            ·
              have hk2 : k < st.length := by simpa using g2
              obtain ⟨b5, hov, hoe⟩ := oGet (T := 3) (W := ways (-1) xs) (st := st) (r := os) st.length (show os.length - 2 ^ i < os.length by omega)
              obtain ⟨p6, hwv, hwe⟩ := wGet (T := 3) (xs := xs) (st := st) (r := ws) (show k < ws.length by omega)
              have hoe2 := tailO (B := wEnts 3 xs st ws) hoe
              have hwe2 := tailW (A := oEnts 3 (ways (-1) xs) st os) hwe (oEnts_len os)
              obtain ⟨bou, rfl⟩ := slSome hsl2 (by omega)
              obtain ⟨bwo, rfl⟩ := slSome hsl1 (by omega)
              have htk8 : twN st k < 8 := by have := tw_bd hsB (k : Int); unfold twN; omega
              have hgk := ways_bd (wo := -1) hR htk8 hxt8
              have htb0 := tab_nn (ways_nn hR) hsB (os.length - 2 ^ i) k
              have htb1 := tabH_cap (W := ways (-1) xs) (st := st) (os.length - 2 ^ i) k
              refine rl_val (gw_some rfl rfl g2) (ov_move rfl) rfl ?_
              refine rl_val (gw_some rfl rfl g2) (ov_gtr rfl rfl) rfl ?_
              refine rl_val gw_none (ov_pick_t rfl g2 rfl) rfl ?_
              refine rl_nil ?_
              refine at_then ?_
              first | refine ct_dec rfl (fun h7 => ?_) (fun h7 => ?_) | refine ct_ndec rfl (fun h7 => ?_) (fun h7 => ?_) | refine ct_eq rfl (fun h7 => ?_) (fun h7 => ?_) | refine ct_ne rfl (fun h7 => ?_) (fun h7 => ?_) | refine ct_not rfl (fun h7 => ?_) (fun h7 => ?_) | refine ct_cond rfl (fun h7 => ?_) (fun h7 => ?_)
              ·
                refine ct_skip ?_
                refine at_then ?_
                refine ct_seq ?_
                refine ct_block ?_
                refine ct_dr 33 (by kernel_rfl) (by kernel_rfl) ?_
                refine ql_val gw_none (ov_move rfl) rfl ?_
                refine ql_val gw_none (ov_move rfl) rfl ?_
                refine ql_val gw_none (ov_move rfl) rfl ?_
                refine ql_val gw_none (ov_move rfl) rfl ?_
                first | refine ql_val gw_none (ov_ix Try.underlying39 sz3 rfl rfl _ rfl (by omega)) rfl ?_ | refine ql_val gw_none (ov_ix Try.underlying39 sz3 rfl rfl (k) (by omega) (by omega)) rfl ?_ | refine ql_val gw_none (ov_ix Try.underlying39 sz3 rfl rfl (i) (by omega) (by omega)) rfl ?_ | refine ql_val gw_none (ov_ix Try.underlying39 sz3 rfl rfl (x.town.toNat) (by omega) (by omega)) rfl ?_ | refine ql_val gw_none (ov_ix Try.underlying39 sz3 rfl rfl (os.length - 2 ^ i) (by omega) (by omega)) rfl ?_
                refine ql_val gw_none (ov_load 0 sc3 rfl rfl (set_get (by rw [rI_len (by omega)]; omega) (by omega))) rfl ?_
                refine ql_val gw_none (ov_move rfl) rfl ?_
                refine ql_val gw_none (ov_move rfl) rfl ?_
                first | refine ql_val gw_none (ov_ix Try.underlying61 sz39 rfl rfl _ rfl (by omega)) rfl ?_ | refine ql_val gw_none (ov_ix Try.underlying61 sz39 rfl rfl (k) (by omega) (by omega)) rfl ?_ | refine ql_val gw_none (ov_ix Try.underlying61 sz39 rfl rfl (i) (by omega) (by omega)) rfl ?_ | refine ql_val gw_none (ov_ix Try.underlying61 sz39 rfl rfl (x.town.toNat) (by omega) (by omega)) rfl ?_ | refine ql_val gw_none (ov_ix Try.underlying61 sz39 rfl rfl (os.length - 2 ^ i) (by omega) (by omega)) rfl ?_
                refine ql_val gw_none (ov_load 1 sc39 rfl rfl (vls_get hov (by omega))) rfl ?_
                refine ql_val gw_none (ov_move rfl) rfl ?_
                first | refine ql_val gw_none (ov_ix Try.underlying39 sz3 rfl rfl _ rfl (by omega)) rfl ?_ | refine ql_val gw_none (ov_ix Try.underlying39 sz3 rfl rfl (k) (by omega) (by omega)) rfl ?_ | refine ql_val gw_none (ov_ix Try.underlying39 sz3 rfl rfl (i) (by omega) (by omega)) rfl ?_ | refine ql_val gw_none (ov_ix Try.underlying39 sz3 rfl rfl (x.town.toNat) (by omega) (by omega)) rfl ?_ | refine ql_val gw_none (ov_ix Try.underlying39 sz3 rfl rfl (os.length - 2 ^ i) (by omega) (by omega)) rfl ?_
                refine ql_val gw_none (ov_load (os.length - 1 - (os.length - 2 ^ i) + 4) sc3 rfl hoe2 (row_cell hk2 (by omega))) rfl ?_
                refine ql_val gw_none (ov_move rfl) rfl ?_
                refine ql_val gw_none (ov_move rfl) rfl ?_
                first | refine ql_val gw_none (ov_ix Try.underlying61 sz39 rfl rfl _ rfl (by omega)) rfl ?_ | refine ql_val gw_none (ov_ix Try.underlying61 sz39 rfl rfl (k) (by omega) (by omega)) rfl ?_ | refine ql_val gw_none (ov_ix Try.underlying61 sz39 rfl rfl (i) (by omega) (by omega)) rfl ?_ | refine ql_val gw_none (ov_ix Try.underlying61 sz39 rfl rfl (x.town.toNat) (by omega) (by omega)) rfl ?_ | refine ql_val gw_none (ov_ix Try.underlying61 sz39 rfl rfl (os.length - 2 ^ i) (by omega) (by omega)) rfl ?_
                refine ql_val gw_none (ov_load 2 sc39 rfl rfl (vls_get hwv (by omega))) rfl ?_
                refine ql_val gw_none (ov_move rfl) rfl ?_
                refine ql_val gw_none (ov_move rfl) rfl ?_
                first | refine ql_val gw_none (ov_ix Try.underlying30 sz44 rfl rfl _ rfl (by omega)) rfl ?_ | refine ql_val gw_none (ov_ix Try.underlying30 sz44 rfl rfl (k) (by omega) (by omega)) rfl ?_ | refine ql_val gw_none (ov_ix Try.underlying30 sz44 rfl rfl (i) (by omega) (by omega)) rfl ?_ | refine ql_val gw_none (ov_ix Try.underlying30 sz44 rfl rfl (x.town.toNat) (by omega) (by omega)) rfl ?_ | refine ql_val gw_none (ov_ix Try.underlying30 sz44 rfl rfl (os.length - 2 ^ i) (by omega) (by omega)) rfl ?_
                refine ql_val gw_none (ov_field fo44_0 rfl) rfl ?_
                first | refine ql_val gw_none (ov_load 0 sc3 rfl rfl rfl) rfl ?_ | refine ql_val gw_none (ov_load 1 sc3 rfl rfl rfl) rfl ?_ | refine ql_val gw_none (ov_load 2 sc3 rfl rfl rfl) rfl ?_ | refine ql_val gw_none (ov_load 3 sc3 rfl rfl rfl) rfl ?_ | refine ql_val gw_none (ov_loadw sc3 rfl (by assumption)) rfl ?_ | refine ql_val gw_none (ov_load 0 sc3 rfl rfl (by assumption)) rfl ?_ | refine ql_val gw_none (ov_load 1 sc3 rfl rfl (by assumption)) rfl ?_ | refine ql_val gw_none (ov_load 2 sc3 rfl rfl (by assumption)) rfl ?_ | refine ql_val gw_none (ov_load 3 sc3 rfl rfl (by assumption)) rfl ?_
                first | refine ql_val gw_none (ov_ix Try.underlying39 sz3 rfl rfl _ rfl (by omega)) rfl ?_ | refine ql_val gw_none (ov_ix Try.underlying39 sz3 rfl rfl (k) (by omega) (by omega)) rfl ?_ | refine ql_val gw_none (ov_ix Try.underlying39 sz3 rfl rfl (i) (by omega) (by omega)) rfl ?_ | refine ql_val gw_none (ov_ix Try.underlying39 sz3 rfl rfl (x.town.toNat) (by omega) (by omega)) rfl ?_ | refine ql_val gw_none (ov_ix Try.underlying39 sz3 rfl rfl (os.length - 2 ^ i) (by omega) (by omega)) rfl ?_
                refine ql_val gw_none (ov_load (ws.length - 1 - k + os.length + 4) sc3 rfl hwe2 (bfAt hR htk8 hxt8 _)) rfl ?_
                refine ql_val gw_none (ov_add rfl rfl (by omega)) rfl ?_
                refine ql_val gw_none (ov_move rfl) rfl ?_
                refine ql_val gw_none (ov_move rfl) rfl ?_
                first | refine ql_val gw_none (ov_ix Try.underlying30 sz44 rfl rfl _ rfl (by omega)) rfl ?_ | refine ql_val gw_none (ov_ix Try.underlying30 sz44 rfl rfl (k) (by omega) (by omega)) rfl ?_ | refine ql_val gw_none (ov_ix Try.underlying30 sz44 rfl rfl (i) (by omega) (by omega)) rfl ?_ | refine ql_val gw_none (ov_ix Try.underlying30 sz44 rfl rfl (x.town.toNat) (by omega) (by omega)) rfl ?_ | refine ql_val gw_none (ov_ix Try.underlying30 sz44 rfl rfl (os.length - 2 ^ i) (by omega) (by omega)) rfl ?_
                refine ql_val gw_none (ov_field fo44_1 rfl) rfl ?_
                first | refine ql_val gw_none (ov_load 0 sc3 rfl rfl rfl) rfl ?_ | refine ql_val gw_none (ov_load 1 sc3 rfl rfl rfl) rfl ?_ | refine ql_val gw_none (ov_load 2 sc3 rfl rfl rfl) rfl ?_ | refine ql_val gw_none (ov_load 3 sc3 rfl rfl rfl) rfl ?_ | refine ql_val gw_none (ov_loadw sc3 rfl (by assumption)) rfl ?_ | refine ql_val gw_none (ov_load 0 sc3 rfl rfl (by assumption)) rfl ?_ | refine ql_val gw_none (ov_load 1 sc3 rfl rfl (by assumption)) rfl ?_ | refine ql_val gw_none (ov_load 2 sc3 rfl rfl (by assumption)) rfl ?_ | refine ql_val gw_none (ov_load 3 sc3 rfl rfl (by assumption)) rfl ?_
                refine ql_val gw_none (ov_add rfl rfl (by omega)) rfl ?_
                refine ql_callv gw_none goes43 rfl (fun w1 hp => l1Least_c _ _ _) rfl ?_
                first | refine ql_val gw_none (ov_ix Try.underlying39 sz3 rfl rfl _ rfl (by omega)) rfl ?_ | refine ql_val gw_none (ov_ix Try.underlying39 sz3 rfl rfl (k) (by omega) (by omega)) rfl ?_ | refine ql_val gw_none (ov_ix Try.underlying39 sz3 rfl rfl (i) (by omega) (by omega)) rfl ?_ | refine ql_val gw_none (ov_ix Try.underlying39 sz3 rfl rfl (x.town.toNat) (by omega) (by omega)) rfl ?_ | refine ql_val gw_none (ov_ix Try.underlying39 sz3 rfl rfl (os.length - 2 ^ i) (by omega) (by omega)) rfl ?_
                refine ql_nil ?_
                refine rl_store [] sz3 rfl rfl rfl rfl rfl (by rw [ints_length, List.length_set, rI_len (by omega)]; omega) ?_
                refine rl_mem (fun _ hq => hq.cong (congrArg (fun x => (_, _, x) :: _) (intsPut (p := i) _ (by rw [List.length_set, rI_len (by omega)]; omega) (by omega)))) ?_
                refine rl_nil ?_
                refine at_block ?_
                refine at_then ?_
                refine ct_reg ?_
                refine rl_val gw_none (ov_move rfl) rfl ?_
                refine rl_val gw_none (ov_add rfl rfl (by omega)) rfl ?_
                refine rl_val gw_none (ov_assign rfl) rfl ?_
                refine rl_nil ?_
                exact at_backR (k + 1) (by first | exact True.intro | omega | (dsimp only; omega) | (dsimp only at *; omega)) (by first | exact True.intro | omega | (dsimp only; omega) | (dsimp only at *; omega)) (by (repeat' (first | exact Sub.nil | refine Sub.cons ?_ ?_)); all_goals (first | rfl | exact lkInt rfl (by omega))) (Sub.cons rfl (Sub.cons rfl (Sub.cons rfl (Sub.cons rfl (Sub.cons rfl (Sub.cons rfl (Sub.cons rfl (Sub.cons rfl (Sub.cons rfl (Sub.cons rfl Sub.nil)))))))))) (fun _ hq => hq.cong (congrArg (fun z => (some N4, 3, ints z) :: _) (by rw [List.set_set, leg_next (by omega) hk2, htn, hdy])))
              ·
                omega
            ·
              have hke : k = st.length := by simp at g2; omega
              subst hke
              refine rl_skip (gw_not rfl rfl g2) rfl ?_
              refine rl_skip (gw_not rfl rfl g2) rfl ?_
              refine rl_val gw_none (ov_pick_f rfl g2 rfl) rfl ?_
              refine rl_nil ?_
              refine at_then ?_
              refine ct_false rfl rfl ?_
              refine ct_exit ?_
              refine at_then_exit ?_
              refine at_then_exit ?_
              refine at_block_hit ?_
              refine at_block ?_
              refine at_then ?_
              refine ct_reg ?_
              refine rl_val gw_none (ov_move rfl) rfl ?_
              refine rl_val gw_none (ov_add rfl rfl (by omega)) rfl ?_
              refine rl_val gw_none (ov_assign rfl) rfl ?_
              refine rl_nil ?_
              exact at_backR (i + 1) (by first | exact True.intro | omega | (dsimp only; omega) | (dsimp only at *; omega)) (by first | exact True.intro | omega | (dsimp only; omega) | (dsimp only at *; omega)) (by (repeat' (first | exact Sub.nil | refine Sub.cons ?_ ?_)); all_goals (first | rfl | exact lkInt rfl (by omega))) (Sub.cons rfl (Sub.cons rfl (Sub.cons rfl (Sub.cons rfl (Sub.cons rfl (Sub.cons rfl (Sub.cons rfl (Sub.cons rfl Sub.nil)))))))) (fun _ hq => hq.cong (congrArg (fun z => (some N4, 3, ints z) :: _) (by first | exact rI_no (by omega) (by omega) rfl | exact rI_one (by omega) hb1 (by omega) (by rw [htn, hdy]) | exact rI_leg (by omega) hb1 (by omega))))
      ·
        have hie : i = st.length := by omega
        subst hie
        refine ct_exit ?_
        refine at_then_exit ?_
        refine at_then_exit ?_
        refine at_block_hit ?_
        refine at_then ?_
        refine ct_reg ?_
        refine rl_val gw_none (ov_move rfl) rfl ?_
        refine rl_val gw_none (ov_move rfl) rfl ?_
        refine rl_bslice Try.underlying61 ze39 sz39 rfl rfl rfl rfl rfl rfl (fun N5 => ?_)
        refine rl_appT (vls) (vls_append) [_, _] (acc := oVals st.length os) Try.underlying61 ze39 sz39 rfl rfl by39 rfl rfl rfl hsl2 ([.slice (some ⟨N4, 0, none⟩) st.length st.length]) rfl (fun w1 hp => hp.sr1 0 rfl rfl (by decide)) (list_one rfl) (by unfold maxLen; omega) (by omega) rfl (fun boq2 capq2 padq2 hsq2 => ?_)
        refine rl_val gw_none (ov_assign rfl) rfl ?_
        refine rl_nil ?_
        refine at_block ?_
        refine at_then ?_
        refine ct_reg ?_
        refine rl_val gw_none (ov_move rfl) rfl ?_
        refine rl_val gw_none (ov_add rfl rfl (by omega)) rfl ?_
        refine rl_val gw_none (ov_assign rfl) rfl ?_
        refine rl_nil ?_
        exact at_backR (boq2, capq2, padq2, N4 :: os) ⟨by dsimp only [List.length_cons]; omega, by dsimp only; rw [oVals_cons]; exact hsq2⟩ (by simp only [List.length_cons]; omega) (by dsimp only; rw [oVals_cons]; (repeat' (first | exact Sub.nil | refine Sub.cons ?_ ?_)); all_goals (first | rfl | exact lkInt rfl (by simp) | exact lkInt rfl (by omega))) (Sub.cons rfl (Sub.cons rfl (Sub.cons rfl (Sub.cons rfl (Sub.cons rfl Sub.nil))))) (fun _ hp => (((Hp.pull (Hp.pull (Hp.pull (Hp.pull (Hp.pull hp 1 rfl) 4 rfl) 4 rfl) 4 rfl) 4 rfl).drop)).cong (by dsimp only; rw [oVals_cons, rI_end]; rfl))
    ·
      have hbe : os.length = 2 ^ st.length := by omega
      refine ct_exit ?_
      refine at_then_exit ?_
      refine at_then_exit ?_
      refine at_block_hit ?_
      refine at_then ?_
      refine ct_seq ?_
      refine ct_reg ?_
      refine rl_val gw_none (ov_move rfl) rfl ?_
      refine rl_val gw_none (ov_assign rfl) rfl ?_
      refine rl_nil ?_
      refine at_then ?_
      refine ct_ret ?_
      refine at_ret1 Try.results42 (ro_tmp rfl) (fun w1 hp => ?_)
      exact ⟨(bo2, cap2, pad2, os), ⟨hbe, hsl2⟩, rfl, (((Hp.pull (Hp.pull (Hp.pull hp 0 rfl) 2 rfl) 2 rfl).drop.drop)).sub ((List.sublist_append_left _ _).cons_cons _)⟩
end Go.Proofs.Ytgnnlgmeagipjaa
