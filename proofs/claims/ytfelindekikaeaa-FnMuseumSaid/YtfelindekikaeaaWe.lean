import Derived.Test.YtfelindekikaeaaWd
import Derived.KernelRfl
set_option linter.unusedVariables false
set_option linter.unusedSimpArgs false
namespace Go.Proofs.Ytfelindekikaeaa
open Go Go.RowKit K
theorem law_FnMuseum (cs : List Int) (vcs : Value) (w : World) (hGcs : ∀ x ∈ cs, 0 ≤ x ∧ x ≤ 255) (hscs : SR w 1 vcs cs.length (flat (fun i => [Value.int .u8 i]) cs)) : Calls Try.prog 6 ([vcs]).toArray w (fun e w' => e = .returned (.bool true) ∧ Ext w w') := by
  obtain ⟨a, capc, rfl, _, _⟩ := hscs.slice
  have hlenc := hscs.len_le
  have hcd := CodeOk.ofF hscs hGcs
  refine calls_ct Try.func6 Try.ntmps6 rfl rfl ?_
  refine ct_seq ?_
  refine ct_reg ?_
  refine rl_val gw_none (ov_assign rfl) rfl ?_
  refine rl_nil ?_
  refine at_then ?_
  refine ct_seq ?_
  refine ct_seq ?_
  refine ct_reg ?_
  refine rl_val gw_none (ov_move rfl) rfl ?_
  refine rl_callv gw_none goes21 rfl (fun w1 hp => rBig_c _ _ _ _ hlenc) rfl ?_
  refine rl_nil ?_
  refine at_then ?_
  first | refine ct_dec rfl (fun h1 => ?_) (fun h1 => ?_) | refine ct_ndec rfl (fun h1 => ?_) (fun h1 => ?_) | refine ct_eq rfl (fun h1 => ?_) (fun h1 => ?_) | refine ct_ne rfl (fun h1 => ?_) (fun h1 => ?_) | refine ct_not rfl (fun h1 => ?_) (fun h1 => ?_) | refine ct_cond rfl (fun h1 => ?_) (fun h1 => ?_)
  ·
    skip
    refine ct_seq ?_
    refine ct_reg ?_
    refine rl_val gw_none (ov_assign rfl) rfl ?_
    refine rl_nil ?_
    refine at_then ?_
    refine ct_ret ?_
    refine at_then_ret ?_
    refine at_ret1 Try.results6 (ro_tmp rfl) (fun w1 hp => ?_)
    refine ⟨?_, hp.ext0⟩
    first | rfl | (simp; done)
  ·
    refine ct_skip ?_
    refine at_then ?_
    refine ct_seq ?_
    refine ct_reg ?_
    refine rl_val gw_none (ov_move rfl) rfl ?_
    refine rl_calle (ι := (Option Nat × Nat × List Value × List Exhibit) × Int) (fun q => .tuple #[sv q.1.1 q.1.2.2.2.length q.1.2.1, .int .i64 q.2]) (fun q => [(q.1.1, 46, flat encExhibit q.1.2.2.2 ++ q.1.2.2.1)]) (fun q => (Sl 7 q.1.1 q.1.2.2.2.length q.1.2.1 (flat encExhibit q.1.2.2.2) q.1.2.2.1 ∧ q.1.2.2.2.length ≤ 12 ∧ (∀ y ∈ q.1.2.2.2, boundE y)) ∧ In64 q.2) goes35 rfl (fun w1 hp => DrawKinsOf_c _ _ _ _ (hcd.call hp (E := []) (by simp))) rfl (fun qd hqd => ?_)
    obtain ⟨⟨bx, cx, px, xs⟩, ei⟩ := qd
    obtain ⟨⟨hslx, hx12, hGx⟩, hz⟩ := hqd
    dsimp only at hslx hx12 hGx hz
    try dsimp only
    refine rl_val gw_none (ov_move rfl) rfl ?_
    refine rl_val gw_none (ov_extract rfl rfl) rfl ?_
    refine rl_val gw_none (ov_extract rfl rfl) rfl ?_
    refine rl_val gw_none (ov_assign rfl) rfl ?_
    refine rl_val gw_none (ov_assign rfl) rfl ?_
    refine rl_nil ?_
    refine at_then ?_
    refine ct_seq ?_
    refine ct_reg ?_
    refine rl_val gw_none (ov_move rfl) rfl ?_
    refine rl_val gw_none (ov_move rfl) rfl ?_
    refine rl_callsl (ι := Nat × List Value) (fun i bo => .tuple #[sv bo (kinsR xs ei).length i.1, .bool (kinsB xs ei)]) (fun i => ints (kinsR xs ei) ++ i.2) (fun i bo => Sl 1 bo (kinsR xs ei).length i.1 (ints (kinsR xs ei)) i.2) goes10 rfl (fun w1 hp => iKinsOf_c xs ei _ _ (boundE_all hGx) (hp.slsr 0 rfl hslx) hz) rfl (fun iK1 boK1 hsK1 => ?_)
    refine rl_val gw_none (ov_move rfl) rfl ?_
    refine rl_val gw_none (ov_extract rfl rfl) rfl ?_
    refine rl_val gw_none (ov_extract rfl rfl) rfl ?_
    refine rl_val gw_none (ov_assign rfl) rfl ?_
    refine rl_val gw_none (ov_assign rfl) rfl ?_
    refine rl_nil ?_
    refine at_then ?_
    refine ct_seq ?_
    refine ct_seq ?_
    refine ct_reg ?_
    refine rl_val gw_none (ov_move rfl) rfl ?_
    refine rl_val gw_none (ov_move rfl) rfl ?_
    refine rl_callsl (ι := Nat × List Value) (fun i bo => .tuple #[sv bo (kinsR xs ei).length i.1, .bool (kinsB xs ei)]) (fun i => ints (kinsR xs ei) ++ i.2) (fun i bo => Sl 1 bo (kinsR xs ei).length i.1 (ints (kinsR xs ei)) i.2) goes8 rfl (fun w1 hp => sKinsOf_c xs ei _ _ (boundE_all hGx) (hp.slsr 1 rfl hslx) hz) rfl (fun iK2 boK2 hsK2 => ?_)
    refine rl_val gw_none (ov_move rfl) rfl ?_
    refine rl_val gw_none (ov_extract rfl rfl) rfl ?_
    refine rl_val gw_none (ov_extract rfl rfl) rfl ?_
    refine rl_val gw_none (ov_assign rfl) rfl ?_
    refine rl_val gw_none (ov_assign rfl) rfl ?_
    refine rl_nil ?_
    refine at_then ?_
    refine ct_seq ?_
    refine ct_reg ?_
    refine rl_val gw_none (ov_move rfl) rfl ?_
    refine rl_val gw_none (ov_move rfl) rfl ?_
    refine rl_val gw_none (ov_neb Try.underlying4 rfl rfl) rfl ?_
    refine rl_val gw_none (ov_move rfl) rfl ?_
    refine rl_split (t := 60) rfl (fun g1 => ?_) (fun g1 => ?_)
    ·
      exfalso; first | (simp at g1; omega) | (simp at g1; done) | (simp_all; done)
    ·
      refine rl_val (gw_some rfl rfl g1) (ov_move rfl) rfl ?_
      refine rl_val (gw_some rfl rfl g1) (ov_move rfl) rfl ?_
      refine rl_callv (gw_some rfl rfl g1) goes36 rfl (fun w1 hp => rInts_c _ _ _ _ (hp.slsr 1 rfl hsK1) (hp.slsr 0 rfl hsK2)) rfl ?_
      refine rl_val (gw_some rfl rfl g1) (ov_not rfl) rfl ?_
      refine rl_val gw_none (ov_pick_f rfl g1 rfl) rfl ?_
      refine rl_nil ?_
      refine at_then ?_
      refine ct_false rfl rfl ?_
      refine ct_skip ?_
      refine at_then ?_
      refine ct_seq ?_
      refine ct_seq ?_
      refine ct_reg ?_
      refine rl_val gw_none (ov_assign rfl) rfl ?_
      refine rl_nil ?_
      refine at_then ?_
      refine ct_block ?_
      refine ct_loopR (ι := Nat) (fun k => [(9, .int .i64 k)]) [(0, _), (3, _), (4, _), (5, _)] (fun _ => _) (fun k => k ≤ (kinsR xs ei).length) (fun k => (kinsR xs ei).length - k) (0) (Sub.cons rfl (Sub.cons rfl (Sub.cons rfl (Sub.cons rfl Sub.nil)))) (fun _ hq => hq) (by (repeat' (first | exact Sub.nil | refine Sub.cons ?_ ?_)); all_goals (first | rfl | exact lkInt rfl (by omega))) (by first | exact True.intro | omega | (dsimp only; omega) | (dsimp only at *; omega)) (fun k hk => ?_)
      refine ct_seq ?_
      refine ct_seq ?_
      refine ct_reg ?_
      refine rl_val gw_none (ov_move rfl) rfl ?_
      refine rl_val gw_none (ov_move rfl) rfl ?_
      refine rl_val gw_none (ov_len Try.underlying24 rfl) rfl ?_
      refine rl_val gw_none (ov_lss rfl rfl) rfl ?_
      refine rl_nil ?_
      refine at_then ?_
      first | refine ct_dec rfl (fun h2 => ?_) (fun h2 => ?_) | refine ct_ndec rfl (fun h2 => ?_) (fun h2 => ?_) | refine ct_eq rfl (fun h2 => ?_) (fun h2 => ?_) | refine ct_ne rfl (fun h2 => ?_) (fun h2 => ?_) | refine ct_not rfl (fun h2 => ?_) (fun h2 => ?_) | refine ct_cond rfl (fun h2 => ?_) (fun h2 => ?_)
      ·
        have hk2 : k < (kinsR xs ei).length := by omega
        obtain ⟨bk, rfl⟩ := slSomeG hsK1 (by omega)
        have hx := getLt hk2
        have hmem := List.getElem_mem hk2
        generalize (kinsR xs ei)[k] = kid at *
        obtain ⟨hkB, hback⟩ := kins_back hmem
        have hkl := kinsR_len xs ei
        have hzk : In64 kid := kin_id (boundE_all hGx) hmem
        refine ct_skip ?_
        refine at_then ?_
        refine ct_seq ?_
        refine ct_block ?_
        refine ct_seq ?_
        refine ct_reg ?_
        refine rl_val gw_none (ov_move rfl) rfl ?_
        refine rl_val gw_none (ov_move rfl) rfl ?_
        refine rl_val gw_none (ov_move rfl) rfl ?_
        first | refine rl_val gw_none (ov_ix Try.underlying24 sz3 rfl rfl _ rfl (by omega)) rfl ?_ | refine rl_val gw_none (ov_ix Try.underlying24 sz3 rfl rfl (k) (by omega) (by omega)) rfl ?_
        refine rl_val gw_none (ov_load 1 sc3 rfl rfl (intsAtP hx _)) rfl ?_
        refine rl_callsl (ι := Nat × List Value) (fun i bo => .tuple #[sv bo (kinsR xs kid).length i.1, .bool (kinsB xs kid)]) (fun i => ints (kinsR xs kid) ++ i.2) (fun i bo => Sl 1 bo (kinsR xs kid).length i.1 (ints (kinsR xs kid)) i.2) goes10 rfl (fun w1 hp => iKinsOf_c xs kid _ _ (boundE_all hGx) (hp.slsr 2 rfl hslx) hzk) rfl (fun iK3 boK3 hsK3 => ?_)
        refine rl_val gw_none (ov_move rfl) rfl ?_
        refine rl_val gw_none (ov_extract rfl rfl) rfl ?_
        refine rl_val gw_none (ov_extract rfl rfl) rfl ?_
        refine rl_val gw_none (ov_assign rfl) rfl ?_
        refine rl_val gw_none (ov_assign rfl) rfl ?_
        refine rl_nil ?_
        refine at_then ?_
        refine ct_seq ?_
        refine ct_reg ?_
        refine rl_val gw_none (ov_move rfl) rfl ?_
        refine rl_val gw_none (ov_not rfl) rfl ?_
        refine rl_val gw_none (ov_move rfl) rfl ?_
        refine rl_split (t := 83) rfl (fun g2 => ?_) (fun g2 => ?_)
        ·
          exfalso; first | (simp at g2; omega) | (simp at g2; done) | (simp_all; done)
        ·
          refine rl_val (gw_some rfl rfl g2) (ov_move rfl) rfl ?_
          refine rl_val (gw_some rfl rfl g2) (ov_move rfl) rfl ?_
          refine rl_callv (gw_some rfl rfl g2) goes37 rfl (fun w1 hp => rHas_c (kinsR xs kid) ei _ _ (hp.slsr 0 rfl hsK3)) rfl ?_
          refine rl_val (gw_some rfl rfl g2) (ov_not rfl) rfl ?_
          refine rl_val gw_none (ov_pick_f rfl g2 rfl) rfl ?_
          refine rl_nil ?_
          refine at_then ?_
          first | refine ct_dec rfl (fun h3 => ?_) (fun h3 => ?_) | refine ct_ndec rfl (fun h3 => ?_) (fun h3 => ?_) | refine ct_eq rfl (fun h3 => ?_) (fun h3 => ?_) | refine ct_ne rfl (fun h3 => ?_) (fun h3 => ?_) | refine ct_not rfl (fun h3 => ?_) (fun h3 => ?_) | refine ct_cond rfl (fun h3 => ?_) (fun h3 => ?_)
          ·
            exfalso; first | omega | exact absurd rfl h3 | (simp at h3; done) | (simp_all; done)
          ·
            refine ct_skip ?_
            refine at_block ?_
            refine at_then ?_
            refine ct_reg ?_
            refine rl_val gw_none (ov_move rfl) rfl ?_
            refine rl_val gw_none (ov_add rfl rfl (by omega)) rfl ?_
            refine rl_val gw_none (ov_assign rfl) rfl ?_
            refine rl_nil ?_
            exact at_backR (k + 1) (by first | exact True.intro | omega | (dsimp only; omega) | (dsimp only at *; omega)) (by first | exact True.intro | omega | (dsimp only; omega) | (dsimp only at *; omega)) (by (repeat' (first | exact Sub.nil | refine Sub.cons ?_ ?_)); all_goals (first | rfl | exact lkInt rfl (by omega))) (Sub.cons rfl (Sub.cons rfl (Sub.cons rfl (Sub.cons rfl Sub.nil)))) (fun _ hq => hq.drop)
      ·
        skip
        refine ct_exit ?_
        refine at_then_exit ?_
        refine at_then_exit ?_
        refine at_block_hit ?_
        refine at_then ?_
        refine ct_seq ?_
        refine ct_reg ?_
        refine rl_val gw_none (ov_move rfl) rfl ?_
        refine rl_calle (ι := (Option Nat × Nat × List Value × List Exhibit) × (Int × Int)) (fun q => .tuple #[sv q.1.1 q.1.2.2.2.length q.1.2.1, .int .i64 q.2.1, .int .i64 q.2.2]) (fun q => [(q.1.1, 46, flat encExhibit q.1.2.2.2 ++ q.1.2.2.1)]) (fun q => (Sl 7 q.1.1 q.1.2.2.2.length q.1.2.1 (flat encExhibit q.1.2.2.2) q.1.2.2.1 ∧ q.1.2.2.2.length ≤ 12 ∧ (∀ y ∈ q.1.2.2.2, boundE y)) ∧ (In64 q.2.1 ∧ In64 q.2.2)) goes38 rfl (fun w1 hp => DrawMoveExhibit_c _ _ _ _ (hcd.call hp (E := []) (by simp))) rfl (fun qd hqd => ?_)
        obtain ⟨⟨bx2, cx2, px2, xs2⟩, ei2, to2⟩ := qd
        obtain ⟨⟨hslx2, hx122, hGx2⟩, hz2⟩ := hqd
        dsimp only at hslx2 hx122 hGx2 hz2
        try dsimp only
        refine rl_val gw_none (ov_move rfl) rfl ?_
        refine rl_val gw_none (ov_extract rfl rfl) rfl ?_
        refine rl_val gw_none (ov_extract rfl rfl) rfl ?_
        refine rl_val gw_none (ov_extract rfl rfl) rfl ?_
        refine rl_val gw_none (ov_assign rfl) rfl ?_
        refine rl_val gw_none (ov_assign rfl) rfl ?_
        refine rl_val gw_none (ov_assign rfl) rfl ?_
        refine rl_nil ?_
        refine at_then ?_
        refine ct_seq ?_
        refine ct_reg ?_
        refine rl_val gw_none (ov_move rfl) rfl ?_
        refine rl_val gw_none (ov_move rfl) rfl ?_
        refine rl_val gw_none (ov_move rfl) rfl ?_
        refine rl_callsl (ι := Nat × List Value) (fun i bo => .tuple #[sv bo (mvR xs2 ei2 to2).length i.1, .bool (mvB xs2 ei2 to2)]) (fun i => flat encExhibit (mvR xs2 ei2 to2) ++ i.2) (fun i bo => Sl 7 bo (mvR xs2 ei2 to2).length i.1 (flat encExhibit (mvR xs2 ei2 to2)) i.2) goes39 rfl (fun w1 hp => iMoveExhibit_c xs2 ei2 to2 _ _ (boundE_all hGx2) (hp.slsr 0 rfl hslx2) hz2.1 hz2.2) rfl (fun iM1 boM1 hsM1 => ?_)
        refine rl_val gw_none (ov_move rfl) rfl ?_
        refine rl_val gw_none (ov_extract rfl rfl) rfl ?_
        refine rl_val gw_none (ov_extract rfl rfl) rfl ?_
        refine rl_val gw_none (ov_assign rfl) rfl ?_
        refine rl_val gw_none (ov_assign rfl) rfl ?_
        refine rl_nil ?_
        refine at_then ?_
        refine ct_seq ?_
        refine ct_seq ?_
        refine ct_reg ?_
        refine rl_val gw_none (ov_move rfl) rfl ?_
        refine rl_val gw_none (ov_move rfl) rfl ?_
        refine rl_val gw_none (ov_move rfl) rfl ?_
        refine rl_callsl (ι := Nat × List Value) (fun i bo => .tuple #[sv bo (mvR xs2 ei2 to2).length i.1, .bool (mvB xs2 ei2 to2)]) (fun i => flat encExhibit (mvR xs2 ei2 to2) ++ i.2) (fun i bo => Sl 7 bo (mvR xs2 ei2 to2).length i.1 (flat encExhibit (mvR xs2 ei2 to2)) i.2) goes40 rfl (fun w1 hp => sMoveExhibit_c xs2 ei2 to2 _ _ (boundE_all hGx2) (hp.slsr 1 rfl hslx2) hz2.1 hz2.2) rfl (fun iM2 boM2 hsM2 => ?_)
        refine rl_val gw_none (ov_move rfl) rfl ?_
        refine rl_val gw_none (ov_extract rfl rfl) rfl ?_
        refine rl_val gw_none (ov_extract rfl rfl) rfl ?_
        refine rl_val gw_none (ov_assign rfl) rfl ?_
        refine rl_val gw_none (ov_assign rfl) rfl ?_
        refine rl_nil ?_
        refine at_then ?_
        refine ct_seq ?_
        refine ct_reg ?_
        refine rl_val gw_none (ov_move rfl) rfl ?_
        refine rl_val gw_none (ov_move rfl) rfl ?_
        refine rl_val gw_none (ov_neb Try.underlying4 rfl rfl) rfl ?_
        refine rl_val gw_none (ov_move rfl) rfl ?_
        refine rl_split (t := 112) rfl (fun g3 => ?_) (fun g3 => ?_)
        ·
          exfalso; first | (simp at g3; omega) | (simp at g3; done) | (simp_all; done)
        ·
          refine rl_val (gw_some rfl rfl g3) (ov_move rfl) rfl ?_
          refine rl_val (gw_some rfl rfl g3) (ov_move rfl) rfl ?_
          refine rl_callv (gw_some rfl rfl g3) goes41 rfl (fun w1 hp => rExhibits_c (mvR xs2 ei2 to2) _ _ _ (hp.slsr 1 rfl hsM1) (hp.slsr 0 rfl hsM2)) rfl ?_
          refine rl_val (gw_some rfl rfl g3) (ov_not rfl) rfl ?_
          refine rl_val gw_none (ov_pick_f rfl g3 rfl) rfl ?_
          refine rl_nil ?_
          refine at_then ?_
          refine ct_false rfl rfl ?_
          refine ct_skip ?_
          refine at_then ?_
          refine ct_cutS (ι := Unit) (fun _ => []) [(0, _)] _ (fun _ => True) (Sub.cons rfl Sub.nil) (fun _ hq => hq) ?_ (fun _ _ => ?_)
          ·
            refine ct_seq ?_
            refine ct_reg ?_
            refine rl_val gw_none (ov_move rfl) rfl ?_
            refine rl_nil ?_
            refine at_then ?_
            first | refine ct_dec rfl (fun h4 => ?_) (fun h4 => ?_) | refine ct_ndec rfl (fun h4 => ?_) (fun h4 => ?_) | refine ct_eq rfl (fun h4 => ?_) (fun h4 => ?_) | refine ct_ne rfl (fun h4 => ?_) (fun h4 => ?_) | refine ct_not rfl (fun h4 => ?_) (fun h4 => ?_) | refine ct_cond rfl (fun h4 => ?_) (fun h4 => ?_)
            ·
              have hmg := mvR_good h4
              have hl9 := clR_len hmg
              refine ct_seq ?_
              refine ct_reg ?_
              refine rl_val gw_none (ov_move rfl) rfl ?_
              refine rl_callsl (ι := Nat × List Value) (fun i bo => .tuple #[sv bo (clR (mvR xs2 ei2 to2)).length i.1, .bool (exhsB (mvR xs2 ei2 to2))]) (fun i => ints (clR (mvR xs2 ei2 to2)) ++ i.2) (fun i bo => Sl 1 bo (clR (mvR xs2 ei2 to2)).length i.1 (ints (clR (mvR xs2 ei2 to2))) i.2) goes42 rfl (fun w1 hp => iCaseLoad_c (mvR xs2 ei2 to2) _ _ (mvR_G _ _ _) (hp.slsr 1 rfl hsM1)) rfl (fun iC1 boC1 hsC1 => ?_)
              refine rl_val gw_none (ov_move rfl) rfl ?_
              refine rl_val gw_none (ov_extract rfl rfl) rfl ?_
              refine rl_val gw_none (ov_extract rfl rfl) rfl ?_
              refine rl_val gw_none (ov_assign rfl) rfl ?_
              refine rl_val gw_none (ov_assign rfl) rfl ?_
              refine rl_nil ?_
              refine at_then ?_
              refine ct_seq ?_
              refine ct_seq ?_
              refine ct_reg ?_
              refine rl_val gw_none (ov_move rfl) rfl ?_
              refine rl_val gw_none (ov_not rfl) rfl ?_
              refine rl_val gw_none (ov_move rfl) rfl ?_
              refine rl_split (t := 126) rfl (fun g4 => ?_) (fun g4 => ?_)
              ·
                exfalso; first | (simp at g4; omega) | (simp at g4; done) | (simp_all; done)
              ·
                refine rl_val (gw_some rfl rfl g4) (ov_move rfl) rfl ?_
                refine rl_val (gw_some rfl rfl g4) (ov_len Try.underlying24 rfl) rfl ?_
                refine rl_val (gw_some rfl rfl g4) (ov_neq rfl rfl) rfl ?_
                refine rl_val gw_none (ov_pick_f rfl g4 rfl) rfl ?_
                refine rl_val gw_none (ov_move rfl) rfl ?_
                refine rl_split (t := 131) rfl (fun g5 => ?_) (fun g5 => ?_)
                ·
                  exfalso; first | (simp at g5; omega) | (simp at g5; done) | (simp_all; done)
                ·
                  refine rl_val (gw_some rfl rfl g5) (ov_move rfl) rfl ?_
                  refine rl_callv (gw_some rfl rfl g5) goes43 rfl (fun w1 hp => iAreExhibits_c (mvR xs2 ei2 to2) _ _ (mvR_G _ _ _) (hp.slsr 2 rfl hsM1)) rfl ?_
                  refine rl_val (gw_some rfl rfl g5) (ov_not rfl) rfl ?_
                  refine rl_val gw_none (ov_pick_f rfl g5 rfl) rfl ?_
                  refine rl_nil ?_
                  refine at_then ?_
                  first | refine ct_dec rfl (fun h5 => ?_) (fun h5 => ?_) | refine ct_ndec rfl (fun h5 => ?_) (fun h5 => ?_) | refine ct_eq rfl (fun h5 => ?_) (fun h5 => ?_) | refine ct_ne rfl (fun h5 => ?_) (fun h5 => ?_) | refine ct_not rfl (fun h5 => ?_) (fun h5 => ?_) | refine ct_cond rfl (fun h5 => ?_) (fun h5 => ?_)
                  ·
                    exfalso; first | omega | exact absurd rfl h5 | (simp at h5; done) | (simp_all; done)
                  ·
                    refine ct_skip ?_
                    refine at_then ?_
                    refine ct_seq ?_
                    refine ct_reg ?_
                    refine rl_val gw_none (ov_assign rfl) rfl ?_
                    refine rl_nil ?_
                    refine at_then ?_
                    refine ct_block ?_
                    refine ct_loopR (ι := Nat) (fun k => [(21, .int .i64 k)]) [(0, _), (19, _)] (fun _ => _) (fun k => k ≤ (clR (mvR xs2 ei2 to2)).length) (fun k => (clR (mvR xs2 ei2 to2)).length - k) (0) (Sub.cons rfl (Sub.cons rfl Sub.nil)) (fun _ hq => hq) (by (repeat' (first | exact Sub.nil | refine Sub.cons ?_ ?_)); all_goals (first | rfl | exact lkInt rfl (by omega))) (by first | exact True.intro | omega | (dsimp only; omega) | (dsimp only at *; omega)) (fun k hk => ?_)
                    refine ct_seq ?_
                    refine ct_seq ?_
                    refine ct_reg ?_
                    refine rl_val gw_none (ov_move rfl) rfl ?_
                    refine rl_val gw_none (ov_move rfl) rfl ?_
                    refine rl_val gw_none (ov_len Try.underlying24 rfl) rfl ?_
                    refine rl_val gw_none (ov_lss rfl rfl) rfl ?_
                    refine rl_nil ?_
                    refine at_then ?_
                    first | refine ct_dec rfl (fun h6 => ?_) (fun h6 => ?_) | refine ct_ndec rfl (fun h6 => ?_) (fun h6 => ?_) | refine ct_eq rfl (fun h6 => ?_) (fun h6 => ?_) | refine ct_ne rfl (fun h6 => ?_) (fun h6 => ?_) | refine ct_not rfl (fun h6 => ?_) (fun h6 => ?_) | refine ct_cond rfl (fun h6 => ?_) (fun h6 => ?_)
                    ·
                      have hk2 : k < (clR (mvR xs2 ei2 to2)).length := by omega
                      obtain ⟨bl, rfl⟩ := slSomeG hsC1 (by omega)
                      have hx := getLt hk2
                      have hle := loads_le hmg (List.getElem_mem hk2)
                      generalize (clR (mvR xs2 ei2 to2))[k] = x at *
                      refine ct_skip ?_
                      refine at_then ?_
                      refine ct_seq ?_
                      refine ct_block ?_
                      refine ct_seq ?_
                      refine ct_reg ?_
                      refine rl_val gw_none (ov_move rfl) rfl ?_
                      refine rl_val gw_none (ov_move rfl) rfl ?_
                      first | refine rl_val gw_none (ov_ix Try.underlying24 sz3 rfl rfl _ rfl (by omega)) rfl ?_ | refine rl_val gw_none (ov_ix Try.underlying24 sz3 rfl rfl (k) (by omega) (by omega)) rfl ?_
                      refine rl_val gw_none (ov_load 0 sc3 rfl rfl (intsAtP hx _)) rfl ?_
                      refine rl_val gw_none (ov_gtr rfl rfl) rfl ?_
                      refine rl_nil ?_
                      refine at_then ?_
                      first | refine ct_dec rfl (fun h7 => ?_) (fun h7 => ?_) | refine ct_ndec rfl (fun h7 => ?_) (fun h7 => ?_) | refine ct_eq rfl (fun h7 => ?_) (fun h7 => ?_) | refine ct_ne rfl (fun h7 => ?_) (fun h7 => ?_) | refine ct_not rfl (fun h7 => ?_) (fun h7 => ?_) | refine ct_cond rfl (fun h7 => ?_) (fun h7 => ?_)
                      ·
                        exfalso; first | omega | exact absurd rfl h7 | (simp at h7; done) | (simp_all; done)
                      ·
                        refine ct_skip ?_
                        refine at_block ?_
                        refine at_then ?_
                        refine ct_reg ?_
                        refine rl_val gw_none (ov_move rfl) rfl ?_
                        refine rl_val gw_none (ov_add rfl rfl (by omega)) rfl ?_
                        refine rl_val gw_none (ov_assign rfl) rfl ?_
                        refine rl_nil ?_
                        exact at_backR (k + 1) (by first | exact True.intro | omega | (dsimp only; omega) | (dsimp only at *; omega)) (by first | exact True.intro | omega | (dsimp only; omega) | (dsimp only at *; omega)) (by (repeat' (first | exact Sub.nil | refine Sub.cons ?_ ?_)); all_goals (first | rfl | exact lkInt rfl (by omega))) (Sub.cons rfl (Sub.cons rfl Sub.nil)) (fun _ hq => hq)
                    ·
                      skip
                      refine ct_exit ?_
                      refine at_then_exit ?_
                      refine at_then_exit ?_
                      refine at_block_hit ?_
                      exact at_handR () trivial (by (repeat' (first | exact Sub.nil | refine Sub.cons ?_ ?_)); all_goals (first | rfl | exact lkInt rfl (by omega))) (Sub.cons rfl Sub.nil) (fun _ hq => hq.drop)
            ·
              skip
              refine ct_skip ?_
              exact at_handR () trivial (by (repeat' (first | exact Sub.nil | refine Sub.cons ?_ ?_)); all_goals (first | rfl | exact lkInt rfl (by omega))) (Sub.cons rfl Sub.nil) (fun _ hq => hq)
          ·
            refine ct_seq ?_
            refine ct_reg ?_
            refine rl_val gw_none (ov_move rfl) rfl ?_
            refine rl_calle (ι := (Option Nat × Nat × List Value × List Exhibit) × Int) (fun q => .tuple #[sv q.1.1 q.1.2.2.2.length q.1.2.1, .int .i64 q.2]) (fun q => [(q.1.1, 46, flat encExhibit q.1.2.2.2 ++ q.1.2.2.1)]) (fun q => (Sl 7 q.1.1 q.1.2.2.2.length q.1.2.1 (flat encExhibit q.1.2.2.2) q.1.2.2.1 ∧ q.1.2.2.2.length ≤ 12 ∧ (∀ y ∈ q.1.2.2.2, boundE y)) ∧ In64 q.2) goes44 rfl (fun w1 hp => DrawShowOne_c _ _ _ _ (hcd.call hp (E := []) (by simp))) rfl (fun qd hqd => ?_)
            obtain ⟨⟨bx3, cx3, px3, xs3⟩, room⟩ := qd
            obtain ⟨⟨hslx3, hx123, hGx3⟩, hz3⟩ := hqd
            dsimp only at hslx3 hx123 hGx3 hz3
            try dsimp only
            refine rl_val gw_none (ov_move rfl) rfl ?_
            refine rl_val gw_none (ov_extract rfl rfl) rfl ?_
            refine rl_val gw_none (ov_extract rfl rfl) rfl ?_
            refine rl_val gw_none (ov_assign rfl) rfl ?_
            refine rl_val gw_none (ov_assign rfl) rfl ?_
            refine rl_nil ?_
            refine at_then ?_
            refine ct_seq ?_
            refine ct_reg ?_
            refine rl_val gw_none (ov_move rfl) rfl ?_
            refine rl_val gw_none (ov_move rfl) rfl ?_
            refine rl_callsl (ι := Nat × List Value) (fun i bo => .tuple #[sv bo (shR xs3 room).length i.1, .bool (shB xs3 room)]) (fun i => ints (shR xs3 room) ++ i.2) (fun i bo => Sl 1 bo (shR xs3 room).length i.1 (ints (shR xs3 room)) i.2) goes45 rfl (fun w1 hp => iShowOne_c xs3 room _ _ (boundE_all hGx3) (hp.slsr 0 rfl hslx3) hz3) rfl (fun iS1 boS1 hsS1 => ?_)
            refine rl_val gw_none (ov_move rfl) rfl ?_
            refine rl_val gw_none (ov_extract rfl rfl) rfl ?_
            refine rl_val gw_none (ov_extract rfl rfl) rfl ?_
            refine rl_val gw_none (ov_assign rfl) rfl ?_
            refine rl_val gw_none (ov_assign rfl) rfl ?_
            refine rl_nil ?_
            refine at_then ?_
            refine ct_seq ?_
            refine ct_seq ?_
            refine ct_reg ?_
            refine rl_val gw_none (ov_move rfl) rfl ?_
            refine rl_val gw_none (ov_move rfl) rfl ?_
            refine rl_callsl (ι := Nat × List Value) (fun i bo => .tuple #[sv bo (shR xs3 room).length i.1, .bool (shB xs3 room)]) (fun i => ints (shR xs3 room) ++ i.2) (fun i bo => Sl 1 bo (shR xs3 room).length i.1 (ints (shR xs3 room)) i.2) goes46 rfl (fun w1 hp => sShowOne_c xs3 room _ _ (boundE_all hGx3) (hp.slsr 1 rfl hslx3) hz3) rfl (fun iS2 boS2 hsS2 => ?_)
            refine rl_val gw_none (ov_move rfl) rfl ?_
            refine rl_val gw_none (ov_extract rfl rfl) rfl ?_
            refine rl_val gw_none (ov_extract rfl rfl) rfl ?_
            refine rl_val gw_none (ov_assign rfl) rfl ?_
            refine rl_val gw_none (ov_assign rfl) rfl ?_
            refine rl_nil ?_
            refine at_then ?_
            refine ct_seq ?_
            refine ct_reg ?_
            refine rl_val gw_none (ov_move rfl) rfl ?_
            refine rl_val gw_none (ov_move rfl) rfl ?_
            refine rl_val gw_none (ov_neb Try.underlying4 rfl rfl) rfl ?_
            refine rl_val gw_none (ov_move rfl) rfl ?_
            refine rl_split (t := 167) rfl (fun g6 => ?_) (fun g6 => ?_)
            ·
              exfalso; first | (simp at g6; omega) | (simp at g6; done) | (simp_all; done)
            ·
              refine rl_val (gw_some rfl rfl g6) (ov_move rfl) rfl ?_
              refine rl_val (gw_some rfl rfl g6) (ov_move rfl) rfl ?_
              refine rl_callv (gw_some rfl rfl g6) goes36 rfl (fun w1 hp => rInts_c _ _ _ _ (hp.slsr 1 rfl hsS1) (hp.slsr 0 rfl hsS2)) rfl ?_
              refine rl_val (gw_some rfl rfl g6) (ov_not rfl) rfl ?_
              refine rl_val gw_none (ov_pick_f rfl g6 rfl) rfl ?_
              refine rl_nil ?_
              refine at_then ?_
              refine ct_false rfl rfl ?_
              refine ct_skip ?_
              refine at_then ?_
              refine ct_seq ?_
              refine ct_reg ?_
              refine rl_val gw_none (ov_assign rfl) rfl ?_
              refine rl_nil ?_
              refine at_then ?_
              refine ct_seq ?_
              refine ct_seq ?_
              refine ct_reg ?_
              refine rl_val gw_none (ov_assign rfl) rfl ?_
              refine rl_nil ?_
              refine at_then ?_
              refine ct_block ?_
              refine ct_loopR (ι := Nat) (fun k => [(28, .int .i64 (sumIn (shR xs3 room) (xs3.take k))), (29, .int .i64 k)]) [(22, _), (23, _), (24, _), (25, _)] (fun _ => _) (fun k => k ≤ xs3.length) (fun k => xs3.length - k) (0) (Sub.cons rfl (Sub.cons rfl (Sub.cons rfl (Sub.cons rfl Sub.nil)))) (fun _ hq => hq) (by (repeat' (first | exact Sub.nil | refine Sub.cons ?_ ?_)); all_goals (first | rfl | exact lkInt rfl (by omega))) (by first | exact True.intro | omega | (dsimp only; omega) | (dsimp only at *; omega)) (fun k hk => ?_)
              have hsb := sumIn_bd (l := shR xs3 room) (fun y hy => (hGx3 y hy).2.2.2.2.2.1) k
              refine ct_seq ?_
              refine ct_seq ?_
              refine ct_reg ?_
              refine rl_val gw_none (ov_move rfl) rfl ?_
              refine rl_val gw_none (ov_move rfl) rfl ?_
              refine rl_val gw_none (ov_len Try.underlying27 rfl) rfl ?_
              refine rl_val gw_none (ov_lss rfl rfl) rfl ?_
              refine rl_nil ?_
              refine at_then ?_
              first | refine ct_dec rfl (fun h8 => ?_) (fun h8 => ?_) | refine ct_ndec rfl (fun h8 => ?_) (fun h8 => ?_) | refine ct_eq rfl (fun h8 => ?_) (fun h8 => ?_) | refine ct_ne rfl (fun h8 => ?_) (fun h8 => ?_) | refine ct_not rfl (fun h8 => ?_) (fun h8 => ?_) | refine ct_cond rfl (fun h8 => ?_) (fun h8 => ?_)
              ·
                have hk2 : k < xs3.length := by omega
                obtain ⟨b3, rfl⟩ := slSomeG hslx3 (by omega)
                have hx := getLt hk2
                have hxb := hGx3 _ (List.getElem_mem hk2)
                generalize xs3[k] = x at *
                have hxr := hxb.2.2.2.2.2.1
                have hss := sumIn_snoc (l := shR xs3 room) hx
                refine ct_skip ?_
                refine at_then ?_
                refine ct_seq ?_
                refine ct_block ?_
                refine ct_seq ?_
                refine ct_reg ?_
                refine rl_val gw_none (ov_move rfl) rfl ?_
                refine rl_val gw_none (ov_move rfl) rfl ?_
                refine rl_val gw_none (ov_move rfl) rfl ?_
                first | refine rl_val gw_none (ov_ix Try.underlying27 sz46 rfl rfl _ rfl (by omega)) rfl ?_ | refine rl_val gw_none (ov_ix Try.underlying27 sz46 rfl rfl (k) (by omega) (by omega)) rfl ?_
                refine rl_val gw_none (ov_field fo46_0 rfl) rfl ?_
                refine rl_val gw_none (ov_load 2 sc3 rfl rfl (flatGetG encExhibit_len (f := 0) hx rfl _)) rfl ?_
                refine rl_callv gw_none goes37 rfl (fun w1 hp => rHas_c (shR xs3 room) x.id _ _ (hp.slsr 1 rfl hsS1)) rfl ?_
                refine rl_nil ?_
                refine at_then ?_
                first | refine ct_dec rfl (fun h9 => ?_) (fun h9 => ?_) | refine ct_ndec rfl (fun h9 => ?_) (fun h9 => ?_) | refine ct_eq rfl (fun h9 => ?_) (fun h9 => ?_) | refine ct_ne rfl (fun h9 => ?_) (fun h9 => ?_) | refine ct_not rfl (fun h9 => ?_) (fun h9 => ?_) | refine ct_cond rfl (fun h9 => ?_) (fun h9 => ?_)
                ·
                  skip
                  refine ct_reg ?_
                  refine rl_val gw_none (ov_move rfl) rfl ?_
                  refine rl_val gw_none (ov_move rfl) rfl ?_
                  refine rl_val gw_none (ov_move rfl) rfl ?_
                  first | refine rl_val gw_none (ov_ix Try.underlying27 sz46 rfl rfl _ rfl (by omega)) rfl ?_ | refine rl_val gw_none (ov_ix Try.underlying27 sz46 rfl rfl (k) (by omega) (by omega)) rfl ?_
                  refine rl_val gw_none (ov_field fo46_5 rfl) rfl ?_
                  refine rl_val gw_none (ov_load 2 sc3 rfl rfl (flatGetG encExhibit_len (f := 5) hx rfl _)) rfl ?_
                  refine rl_val gw_none (ov_add rfl rfl (by omega)) rfl ?_
                  refine rl_val gw_none (ov_assign rfl) rfl ?_
                  refine rl_nil ?_
                  refine at_block ?_
                  refine at_then ?_
                  refine ct_reg ?_
                  refine rl_val gw_none (ov_move rfl) rfl ?_
                  refine rl_val gw_none (ov_add rfl rfl (by omega)) rfl ?_
                  refine rl_val gw_none (ov_assign rfl) rfl ?_
                  refine rl_nil ?_
                  exact at_backR (k + 1) (by first | exact True.intro | omega | (dsimp only; omega) | (dsimp only at *; omega)) (by first | exact True.intro | omega | (dsimp only; omega) | (dsimp only at *; omega)) (by (repeat' (first | exact Sub.nil | refine Sub.cons ?_ ?_)); all_goals (first | rfl | exact lkInt rfl (by omega) | exact lkInt rfl (by rw [hss]; first | (rw [if_pos (by assumption)]; done) | (rw [if_neg (by assumption)]; done)))) (Sub.cons rfl (Sub.cons rfl (Sub.cons rfl (Sub.cons rfl Sub.nil)))) (fun _ hq => hq)
                ·
                  skip
                  refine ct_skip ?_
                  refine at_block ?_
                  refine at_then ?_
                  refine ct_reg ?_
                  refine rl_val gw_none (ov_move rfl) rfl ?_
                  refine rl_val gw_none (ov_add rfl rfl (by omega)) rfl ?_
                  refine rl_val gw_none (ov_assign rfl) rfl ?_
                  refine rl_nil ?_
                  exact at_backR (k + 1) (by first | exact True.intro | omega | (dsimp only; omega) | (dsimp only at *; omega)) (by first | exact True.intro | omega | (dsimp only; omega) | (dsimp only at *; omega)) (by (repeat' (first | exact Sub.nil | refine Sub.cons ?_ ?_)); all_goals (first | rfl | exact lkInt rfl (by omega) | exact lkInt rfl (by rw [hss]; first | (rw [if_pos (by assumption)]; done) | (rw [if_neg (by assumption)]; done)))) (Sub.cons rfl (Sub.cons rfl (Sub.cons rfl (Sub.cons rfl Sub.nil)))) (fun _ hq => hq)
              ·
                have hke : k = xs3.length := by omega
                subst hke
                refine ct_exit ?_
                refine at_then_exit ?_
                refine at_then_exit ?_
                refine at_block_hit ?_
                refine at_then ?_
                refine ct_seq ?_
                refine ct_seq ?_
                refine ct_reg ?_
                refine rl_val gw_none (ov_move rfl) rfl ?_
                refine rl_val gw_none (ov_move rfl) rfl ?_
                refine rl_split (t := 194) rfl (fun g7 => ?_) (fun g7 => ?_)
                ·
                  have hfit := shown_fits g7
                  refine rl_val (gw_some rfl rfl g7) (ov_move rfl) rfl ?_
                  refine rl_val (gw_some rfl rfl g7) (ov_move rfl) rfl ?_
                  refine rl_val (gw_some rfl rfl g7) (ov_gtr rfl rfl) rfl ?_
                  refine rl_val gw_none (ov_pick_t rfl g7 rfl) rfl ?_
                  refine rl_nil ?_
                  refine at_then ?_
                  first | refine ct_dec rfl (fun h10 => ?_) (fun h10 => ?_) | refine ct_ndec rfl (fun h10 => ?_) (fun h10 => ?_) | refine ct_eq rfl (fun h10 => ?_) (fun h10 => ?_) | refine ct_ne rfl (fun h10 => ?_) (fun h10 => ?_) | refine ct_not rfl (fun h10 => ?_) (fun h10 => ?_) | refine ct_cond rfl (fun h10 => ?_) (fun h10 => ?_)
                  ·
                    exfalso; rw [List.take_length] at h10; omega
                  ·
                    refine ct_skip ?_
                    refine at_then ?_
                    refine ct_seq ?_
                    refine ct_reg ?_
                    refine rl_val gw_none (ov_move rfl) rfl ?_
                    refine rl_callsl (ι := Nat × List Value) (fun i bo => .tuple #[sv bo (clR xs3).length i.1, .bool (exhsB xs3)]) (fun i => ints (clR xs3) ++ i.2) (fun i bo => Sl 1 bo (clR xs3).length i.1 (ints (clR xs3)) i.2) goes42 rfl (fun w1 hp => iCaseLoad_c xs3 _ _ (boundE_all hGx3) (hp.slsr 2 rfl hslx3)) rfl (fun iL1 boL1 hsL1 => ?_)
                    refine rl_val gw_none (ov_move rfl) rfl ?_
                    refine rl_val gw_none (ov_extract rfl rfl) rfl ?_
                    refine rl_val gw_none (ov_extract rfl rfl) rfl ?_
                    refine rl_val gw_none (ov_assign rfl) rfl ?_
                    refine rl_val gw_none (ov_assign rfl) rfl ?_
                    refine rl_nil ?_
                    refine at_then ?_
                    refine ct_seq ?_
                    refine ct_seq ?_
                    refine ct_reg ?_
                    refine rl_val gw_none (ov_move rfl) rfl ?_
                    refine rl_callsl (ι := Nat × List Value) (fun i bo => .tuple #[sv bo (clR xs3).length i.1, .bool (exhsB xs3)]) (fun i => ints (clR xs3) ++ i.2) (fun i bo => Sl 1 bo (clR xs3).length i.1 (ints (clR xs3)) i.2) goes47 rfl (fun w1 hp => sCaseLoad_c xs3 _ _ (boundE_all hGx3) (hp.slsr 3 rfl hslx3)) rfl (fun iL2 boL2 hsL2 => ?_)
                    refine rl_val gw_none (ov_move rfl) rfl ?_
                    refine rl_val gw_none (ov_extract rfl rfl) rfl ?_
                    refine rl_val gw_none (ov_extract rfl rfl) rfl ?_
                    refine rl_val gw_none (ov_assign rfl) rfl ?_
                    refine rl_val gw_none (ov_assign rfl) rfl ?_
                    refine rl_nil ?_
                    refine at_then ?_
                    refine ct_seq ?_
                    refine ct_reg ?_
                    refine rl_val gw_none (ov_move rfl) rfl ?_
                    refine rl_val gw_none (ov_move rfl) rfl ?_
                    refine rl_val gw_none (ov_neb Try.underlying4 rfl rfl) rfl ?_
                    refine rl_val gw_none (ov_move rfl) rfl ?_
                    refine rl_split (t := 212) rfl (fun g8 => ?_) (fun g8 => ?_)
                    ·
                      exfalso; first | (simp at g8; omega) | (simp at g8; done) | (simp_all; done)
                    ·
                      refine rl_val (gw_some rfl rfl g8) (ov_move rfl) rfl ?_
                      refine rl_val (gw_some rfl rfl g8) (ov_move rfl) rfl ?_
                      refine rl_callv (gw_some rfl rfl g8) goes36 rfl (fun w1 hp => rInts_c _ _ _ _ (hp.slsr 1 rfl hsL1) (hp.slsr 0 rfl hsL2)) rfl ?_
                      refine rl_val (gw_some rfl rfl g8) (ov_not rfl) rfl ?_
                      refine rl_val gw_none (ov_pick_f rfl g8 rfl) rfl ?_
                      refine rl_nil ?_
                      refine at_then ?_
                      refine ct_false rfl rfl ?_
                      refine ct_skip ?_
                      refine at_then ?_
                      refine ct_seq ?_
                      refine ct_reg ?_
                      refine rl_val gw_none (ov_move rfl) rfl ?_
                      refine rl_callv gw_none goes48 rfl (fun w1 hp => iBeadsShown_c xs3 _ _ (boundE_all hGx3) (hp.slsr 4 rfl hslx3)) rfl ?_
                      refine rl_val gw_none (ov_move rfl) rfl ?_
                      refine rl_val gw_none (ov_extract rfl rfl) rfl ?_
                      refine rl_val gw_none (ov_extract rfl rfl) rfl ?_
                      refine rl_val gw_none (ov_assign rfl) rfl ?_
                      refine rl_val gw_none (ov_assign rfl) rfl ?_
                      refine rl_nil ?_
                      refine at_then ?_
                      refine ct_seq ?_
                      refine ct_reg ?_
                      refine rl_val gw_none (ov_move rfl) rfl ?_
                      refine rl_callv gw_none goes49 rfl (fun w1 hp => sBeadsShown_c xs3 _ _ (boundE_all hGx3) (hp.slsr 4 rfl hslx3)) rfl ?_
                      refine rl_val gw_none (ov_move rfl) rfl ?_
                      refine rl_val gw_none (ov_extract rfl rfl) rfl ?_
                      refine rl_val gw_none (ov_extract rfl rfl) rfl ?_
                      refine rl_val gw_none (ov_assign rfl) rfl ?_
                      refine rl_val gw_none (ov_assign rfl) rfl ?_
                      refine rl_nil ?_
                      refine at_then ?_
                      refine ct_seq ?_
                      refine ct_reg ?_
                      refine rl_val gw_none (ov_move rfl) rfl ?_
                      refine rl_val gw_none (ov_move rfl) rfl ?_
                      refine rl_val gw_none (ov_eql rfl rfl) rfl ?_
                      refine rl_val gw_none (ov_move rfl) rfl ?_
                      refine rl_split (t := 231) rfl (fun g9 => ?_) (fun g9 => ?_)
                      ·
                        skip
                        refine rl_val (gw_some rfl rfl g9) (ov_move rfl) rfl ?_
                        refine rl_val (gw_some rfl rfl g9) (ov_move rfl) rfl ?_
                        refine rl_val (gw_some rfl rfl g9) (ov_eqb Try.underlying4 rfl rfl) rfl ?_
                        refine rl_val gw_none (ov_pick_t rfl g9 rfl) rfl ?_
                        refine rl_val gw_none (ov_move rfl) rfl ?_
                        refine rl_split (t := 236) rfl (fun g10 => ?_) (fun g10 => ?_)
                        ·
                          skip
                          refine rl_val (gw_some rfl rfl g10) (ov_move rfl) rfl ?_
                          refine rl_val (gw_some rfl rfl g10) (ov_move rfl) rfl ?_
                          refine rl_val (gw_some rfl rfl g10) (ov_eqb Try.underlying4 rfl rfl) rfl ?_
                          refine rl_val gw_none (ov_pick_t rfl g10 rfl) rfl ?_
                          refine rl_val gw_none (ov_assign rfl) rfl ?_
                          refine rl_nil ?_
                          refine at_then ?_
                          refine ct_ret ?_
                          refine at_ret1 Try.results6 (ro_tmp rfl) (fun w1 hp => ?_)
                          refine ⟨?_, hp.ext0⟩
                          first | rfl | (simp; done)
                        ·
                          exfalso; simp at g10
                      ·
                        exfalso; simp at g9
                ·
                  skip
                  refine rl_skip (gw_not rfl rfl g7) rfl ?_
                  refine rl_skip (gw_not rfl rfl g7) rfl ?_
                  refine rl_skip (gw_not rfl rfl g7) rfl ?_
                  refine rl_val gw_none (ov_pick_f rfl g7 rfl) rfl ?_
                  refine rl_nil ?_
                  refine at_then ?_
                  refine ct_false rfl rfl ?_
                  refine ct_skip ?_
                  refine at_then ?_
                  refine ct_seq ?_
                  refine ct_reg ?_
                  refine rl_val gw_none (ov_move rfl) rfl ?_
                  refine rl_callsl (ι := Nat × List Value) (fun i bo => .tuple #[sv bo (clR xs3).length i.1, .bool (exhsB xs3)]) (fun i => ints (clR xs3) ++ i.2) (fun i bo => Sl 1 bo (clR xs3).length i.1 (ints (clR xs3)) i.2) goes42 rfl (fun w1 hp => iCaseLoad_c xs3 _ _ (boundE_all hGx3) (hp.slsr 2 rfl hslx3)) rfl (fun iL1 boL1 hsL1 => ?_)
                  refine rl_val gw_none (ov_move rfl) rfl ?_
                  refine rl_val gw_none (ov_extract rfl rfl) rfl ?_
                  refine rl_val gw_none (ov_extract rfl rfl) rfl ?_
                  refine rl_val gw_none (ov_assign rfl) rfl ?_
                  refine rl_val gw_none (ov_assign rfl) rfl ?_
                  refine rl_nil ?_
                  refine at_then ?_
                  refine ct_seq ?_
                  refine ct_seq ?_
                  refine ct_reg ?_
                  refine rl_val gw_none (ov_move rfl) rfl ?_
                  refine rl_callsl (ι := Nat × List Value) (fun i bo => .tuple #[sv bo (clR xs3).length i.1, .bool (exhsB xs3)]) (fun i => ints (clR xs3) ++ i.2) (fun i bo => Sl 1 bo (clR xs3).length i.1 (ints (clR xs3)) i.2) goes47 rfl (fun w1 hp => sCaseLoad_c xs3 _ _ (boundE_all hGx3) (hp.slsr 3 rfl hslx3)) rfl (fun iL2 boL2 hsL2 => ?_)
                  refine rl_val gw_none (ov_move rfl) rfl ?_
                  refine rl_val gw_none (ov_extract rfl rfl) rfl ?_
                  refine rl_val gw_none (ov_extract rfl rfl) rfl ?_
                  refine rl_val gw_none (ov_assign rfl) rfl ?_
                  refine rl_val gw_none (ov_assign rfl) rfl ?_
                  refine rl_nil ?_
                  refine at_then ?_
                  refine ct_seq ?_
                  refine ct_reg ?_
                  refine rl_val gw_none (ov_move rfl) rfl ?_
                  refine rl_val gw_none (ov_move rfl) rfl ?_
                  refine rl_val gw_none (ov_neb Try.underlying4 rfl rfl) rfl ?_
                  refine rl_val gw_none (ov_move rfl) rfl ?_
                  refine rl_split (t := 212) rfl (fun g11 => ?_) (fun g11 => ?_)
                  ·
                    exfalso; first | (simp at g11; omega) | (simp at g11; done) | (simp_all; done)
                  ·
                    refine rl_val (gw_some rfl rfl g11) (ov_move rfl) rfl ?_
                    refine rl_val (gw_some rfl rfl g11) (ov_move rfl) rfl ?_
                    refine rl_callv (gw_some rfl rfl g11) goes36 rfl (fun w1 hp => rInts_c _ _ _ _ (hp.slsr 1 rfl hsL1) (hp.slsr 0 rfl hsL2)) rfl ?_
                    refine rl_val (gw_some rfl rfl g11) (ov_not rfl) rfl ?_
                    refine rl_val gw_none (ov_pick_f rfl g11 rfl) rfl ?_
                    refine rl_nil ?_
                    refine at_then ?_
                    refine ct_false rfl rfl ?_
                    refine ct_skip ?_
                    refine at_then ?_
                    refine ct_seq ?_
                    refine ct_reg ?_
                    refine rl_val gw_none (ov_move rfl) rfl ?_
                    refine rl_callv gw_none goes48 rfl (fun w1 hp => iBeadsShown_c xs3 _ _ (boundE_all hGx3) (hp.slsr 4 rfl hslx3)) rfl ?_
                    refine rl_val gw_none (ov_move rfl) rfl ?_
                    refine rl_val gw_none (ov_extract rfl rfl) rfl ?_
                    refine rl_val gw_none (ov_extract rfl rfl) rfl ?_
                    refine rl_val gw_none (ov_assign rfl) rfl ?_
                    refine rl_val gw_none (ov_assign rfl) rfl ?_
                    refine rl_nil ?_
                    refine at_then ?_
                    refine ct_seq ?_
                    refine ct_reg ?_
                    refine rl_val gw_none (ov_move rfl) rfl ?_
                    refine rl_callv gw_none goes49 rfl (fun w1 hp => sBeadsShown_c xs3 _ _ (boundE_all hGx3) (hp.slsr 4 rfl hslx3)) rfl ?_
                    refine rl_val gw_none (ov_move rfl) rfl ?_
                    refine rl_val gw_none (ov_extract rfl rfl) rfl ?_
                    refine rl_val gw_none (ov_extract rfl rfl) rfl ?_
                    refine rl_val gw_none (ov_assign rfl) rfl ?_
                    refine rl_val gw_none (ov_assign rfl) rfl ?_
                    refine rl_nil ?_
                    refine at_then ?_
                    refine ct_seq ?_
                    refine ct_reg ?_
                    refine rl_val gw_none (ov_move rfl) rfl ?_
                    refine rl_val gw_none (ov_move rfl) rfl ?_
                    refine rl_val gw_none (ov_eql rfl rfl) rfl ?_
                    refine rl_val gw_none (ov_move rfl) rfl ?_
                    refine rl_split (t := 231) rfl (fun g12 => ?_) (fun g12 => ?_)
                    ·
                      skip
                      refine rl_val (gw_some rfl rfl g12) (ov_move rfl) rfl ?_
                      refine rl_val (gw_some rfl rfl g12) (ov_move rfl) rfl ?_
                      refine rl_val (gw_some rfl rfl g12) (ov_eqb Try.underlying4 rfl rfl) rfl ?_
                      refine rl_val gw_none (ov_pick_t rfl g12 rfl) rfl ?_
                      refine rl_val gw_none (ov_move rfl) rfl ?_
                      refine rl_split (t := 236) rfl (fun g13 => ?_) (fun g13 => ?_)
                      ·
                        skip
                        refine rl_val (gw_some rfl rfl g13) (ov_move rfl) rfl ?_
                        refine rl_val (gw_some rfl rfl g13) (ov_move rfl) rfl ?_
                        refine rl_val (gw_some rfl rfl g13) (ov_eqb Try.underlying4 rfl rfl) rfl ?_
                        refine rl_val gw_none (ov_pick_t rfl g13 rfl) rfl ?_
                        refine rl_val gw_none (ov_assign rfl) rfl ?_
                        refine rl_nil ?_
                        refine at_then ?_
                        refine ct_ret ?_
                        refine at_ret1 Try.results6 (ro_tmp rfl) (fun w1 hp => ?_)
                        refine ⟨?_, hp.ext0⟩
                        first | rfl | (simp; done)
                      ·
                        exfalso; simp at g13
                    ·
                      exfalso; simp at g12
end Go.Proofs.Ytfelindekikaeaa
