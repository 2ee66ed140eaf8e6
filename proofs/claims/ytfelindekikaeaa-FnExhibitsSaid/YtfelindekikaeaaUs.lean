import Derived.Test.YtfelindekikaeaaUr
import Derived.Test.YtfelindekikaeaaUd
import Derived.Test.YtfelindekikaeaaTl
import Derived.Test.YtfelindekikaeaaTm
import Derived.KernelRfl
set_option linter.unusedVariables false
set_option linter.unusedSimpArgs false
namespace Go.Proofs.Ytfelindekikaeaa
open Go Go.RowKit K
theorem old_y (xs : List Exhibit) (s : ByteArray) (y : Exhibit) (vxs : Value) (w : World) (hGxs : ∀ y ∈ xs, GExhibit y) (hsxs : SR w 7 vxs xs.length (flat encExhibit xs)) (zs : s.size ≤ maxLen) (ho : oldR xs s = (y.id, true)) :
    Calls Try.prog 24 [vxs, .string s].toArray w (fun e w' => e = .returned (.tuple #[.int .i64 y.id, .bool true]) ∧ Ext w w') := by
  have h := iOldestIn_c xs s vxs w hGxs hsxs zs
  rw [ho] at h
  exact h

theorem law_FnExhibits (cs : List Int) (vcs : Value) (w : World) (hGcs : ∀ x ∈ cs, 0 ≤ x ∧ x ≤ 255) (hscs : SR w 1 vcs cs.length (flat (fun i => [Value.int .u8 i]) cs)) : Calls Try.prog 5 ([vcs]).toArray w (fun e w' => e = .returned (.bool true) ∧ Ext w w') := by
  obtain ⟨a, capc, rfl, _, _⟩ := hscs.slice
  have hlenc := hscs.len_le
  have hcd := CodeOk.ofF hscs hGcs
  refine calls_ct Try.func5 Try.ntmps5 rfl rfl ?_
  refine ct_seq ?_
  refine ct_reg ?_
  refine rl_val gw_none (ov_assign rfl) rfl ?_
  refine rl_nil ?_
  refine at_then ?_
  refine ct_seq ?_
  refine ct_seq ?_
  refine ct_reg ?_
  refine rl_val gw_none (ov_move rfl) rfl ?_
  refine rl_callv gw_none goes21 rfl (fun w1 hp => rBig_c _ _ _ _ hlenc) rfl ?_
  refine rl_nil ?_
  refine at_then ?_
  first | refine ct_dec rfl (fun h1 => ?_) (fun h1 => ?_) | refine ct_ndec rfl (fun h1 => ?_) (fun h1 => ?_) | refine ct_eq rfl (fun h1 => ?_) (fun h1 => ?_) | refine ct_ne rfl (fun h1 => ?_) (fun h1 => ?_) | refine ct_not rfl (fun h1 => ?_) (fun h1 => ?_) | refine ct_cond rfl (fun h1 => ?_) (fun h1 => ?_)
  ·
    skip
    refine ct_seq ?_
    refine ct_reg ?_
    refine rl_val gw_none (ov_assign rfl) rfl ?_
    refine rl_nil ?_
    refine at_then ?_
    refine ct_ret ?_
    refine at_then_ret ?_
    refine at_ret1 Try.results5 (ro_tmp rfl) (fun w1 hp => ?_)
    refine ⟨?_, hp.ext0⟩
    first | rfl | (simp; done)
  ·
    refine ct_skip ?_
    refine at_then ?_
    refine ct_seq ?_
    refine ct_reg ?_
    refine rl_val gw_none (ov_move rfl) rfl ?_
    refine rl_calle (ι := Option Nat × Nat × List Value × List Exhibit) (fun q => sv q.1 q.2.2.2.length q.2.1) (fun q => [(q.1, 46, flat encExhibit q.2.2.2 ++ q.2.2.1)]) (fun q => Sl 7 q.1 q.2.2.2.length q.2.1 (flat encExhibit q.2.2.2) q.2.2.1 ∧ q.2.2.2.length ≤ 12 ∧ (∀ y ∈ q.2.2.2, boundE y)) goes22 rfl (fun w1 hp => DrawLandsByAge_c _ _ _ _ (hcd.call hp (E := []) (by simp))) rfl (fun qd hqd => ?_)
    obtain ⟨bx, cx, px, xs⟩ := qd
    obtain ⟨hslx, hx12, hGx⟩ := hqd
    dsimp only at hslx hx12 hGx
    try dsimp only
    refine rl_val gw_none (ov_assign rfl) rfl ?_
    refine rl_nil ?_
    refine at_then ?_
    refine ct_seq ?_
    refine ct_reg ?_
    refine rl_val gw_none (ov_move rfl) rfl ?_
    refine rl_callsl (ι := Nat × List Value) (fun i bo => .tuple #[sv bo (landsR xs).length i.1, .bool (exhsB xs)]) (fun i => flat encS (landsR xs) ++ i.2) (fun i bo => Sl 1 bo (landsR xs).length i.1 (flat encS (landsR xs)) i.2) goes17 rfl (fun w1 hp => iLandsByAge_c xs _ _ (boundE_all hGx) (hp.slsr 0 rfl hslx)) rfl (fun iD1 boD1 hsD1 => ?_)
    refine rl_val gw_none (ov_move rfl) rfl ?_
    refine rl_val gw_none (ov_extract rfl rfl) rfl ?_
    refine rl_val gw_none (ov_extract rfl rfl) rfl ?_
    refine rl_val gw_none (ov_assign rfl) rfl ?_
    refine rl_val gw_none (ov_assign rfl) rfl ?_
    refine rl_nil ?_
    refine at_then ?_
    refine ct_seq ?_
    refine ct_seq ?_
    refine ct_reg ?_
    refine rl_val gw_none (ov_move rfl) rfl ?_
    refine rl_callsl (ι := Nat × List Value) (fun i bo => .tuple #[sv bo (landsR xs).length i.1, .bool (exhsB xs)]) (fun i => flat encS (landsR xs) ++ i.2) (fun i bo => Sl 1 bo (landsR xs).length i.1 (flat encS (landsR xs)) i.2) goes16 rfl (fun w1 hp => sLandsByAge_c xs _ _ (boundE_all hGx) (hp.slsr 1 rfl hslx)) rfl (fun iD2 boD2 hsD2 => ?_)
    refine rl_val gw_none (ov_move rfl) rfl ?_
    refine rl_val gw_none (ov_extract rfl rfl) rfl ?_
    refine rl_val gw_none (ov_extract rfl rfl) rfl ?_
    refine rl_val gw_none (ov_assign rfl) rfl ?_
    refine rl_val gw_none (ov_assign rfl) rfl ?_
    refine rl_nil ?_
    refine at_then ?_
    refine ct_seq ?_
    refine ct_reg ?_
    refine rl_val gw_none (ov_move rfl) rfl ?_
    refine rl_val gw_none (ov_move rfl) rfl ?_
    refine rl_val gw_none (ov_neb Try.underlying4 rfl rfl) rfl ?_
    refine rl_val gw_none (ov_move rfl) rfl ?_
    refine rl_split (t := 46) rfl (fun g1 => ?_) (fun g1 => ?_)
    ·
      exfalso; first | (simp at g1; omega) | (simp at g1; done) | (simp_all; done)
    ·
      refine rl_val (gw_some rfl rfl g1) (ov_move rfl) rfl ?_
      refine rl_val (gw_some rfl rfl g1) (ov_move rfl) rfl ?_
      refine rl_callv (gw_some rfl rfl g1) goes23 rfl (fun w1 hp => rTexts_c (landsR xs) _ _ _ (hp.slsr 1 rfl hsD1) (hp.slsr 0 rfl hsD2)) rfl ?_
      refine rl_val (gw_some rfl rfl g1) (ov_not rfl) rfl ?_
      refine rl_val gw_none (ov_pick_f rfl g1 rfl) rfl ?_
      refine rl_nil ?_
      refine at_then ?_
      refine ct_false rfl rfl ?_
      refine ct_skip ?_
      refine at_then ?_
      refine ct_cutS (ι := Unit) (fun _ => []) [(0, _)] _ (fun _ => True) (Sub.cons rfl Sub.nil) (fun _ hq => hq) ?_ (fun _ _ => ?_)
      ·
        refine ct_seq ?_
        refine ct_reg ?_
        refine rl_val gw_none (ov_move rfl) rfl ?_
        refine rl_val gw_none (ov_len Try.underlying34 rfl) rfl ?_
        refine rl_val gw_none (ov_gtr rfl rfl) rfl ?_
        refine rl_nil ?_
        refine at_then ?_
        first | refine ct_dec rfl (fun h2 => ?_) (fun h2 => ?_) | refine ct_ndec rfl (fun h2 => ?_) (fun h2 => ?_) | refine ct_eq rfl (fun h2 => ?_) (fun h2 => ?_) | refine ct_ne rfl (fun h2 => ?_) (fun h2 => ?_) | refine ct_not rfl (fun h2 => ?_) (fun h2 => ?_) | refine ct_cond rfl (fun h2 => ?_) (fun h2 => ?_)
        ·
          obtain ⟨bl, rfl⟩ := slSomeG hsD1 (by omega)
          have hs0 := getLt (show 0 < (landsR xs).length by omega)
          generalize (landsR xs)[0] = s0 at *
          obtain ⟨hok, ⟨yl, hyl, hyls⟩, y0, hy0, hold, hmin⟩ := lands_first hs0
          have hz0 : s0.size ≤ maxLen := by rw [← hyls]; exact (hGx _ hyl).g.2.1
          have hmt := madeT_eq hok hy0
          have hzy : In64 y0.id := (hGx _ hy0).g.1
          refine ct_seq ?_
          refine ct_reg ?_
          refine rl_val gw_none (ov_move rfl) rfl ?_
          refine rl_val gw_none (ov_move rfl) rfl ?_
          first | refine rl_val gw_none (ov_ix Try.underlying34 sz9 rfl rfl _ rfl (by omega)) rfl ?_ | refine rl_val gw_none (ov_ix Try.underlying34 sz9 rfl rfl (k) (by omega) (by omega)) rfl ?_ | refine rl_val gw_none (ov_ix Try.underlying34 sz9 rfl rfl (0) (by omega) (by omega)) rfl ?_
          refine rl_val gw_none (ov_load 1 sc9 rfl rfl (flatGetG encS_len (f := 0) hs0 rfl _)) rfl ?_
          refine rl_callv gw_none goes24 rfl (fun w1 hp => old_y xs s0 y0 _ _ (boundE_all hGx) (hp.slsr 2 rfl hslx) hz0 hold) rfl ?_
          refine rl_val gw_none (ov_move rfl) rfl ?_
          refine rl_val gw_none (ov_extract rfl rfl) rfl ?_
          refine rl_val gw_none (ov_extract rfl rfl) rfl ?_
          refine rl_val gw_none (ov_assign rfl) rfl ?_
          refine rl_val gw_none (ov_assign rfl) rfl ?_
          refine rl_nil ?_
          refine at_then ?_
          refine ct_seq ?_
          refine ct_reg ?_
          refine rl_val gw_none (ov_assign rfl) rfl ?_
          refine rl_nil ?_
          refine at_then ?_
          refine ct_seq ?_
          refine ct_seq ?_
          refine ct_reg ?_
          refine rl_val gw_none (ov_assign rfl) rfl ?_
          refine rl_nil ?_
          refine at_then ?_
          refine ct_block ?_
          refine ct_loopR (ι := Nat) (fun k => [(10, .int .i64 (madeT (xs.take k) y0.id)), (11, .int .i64 k)]) [(0, _), (2, _), (3, _), (4, _), (8, _), (9, _)] (fun _ => _) (fun k => k ≤ xs.length) (fun k => xs.length - k) (0) (Sub.cons rfl (Sub.cons rfl (Sub.cons rfl (Sub.cons rfl (Sub.cons rfl (Sub.cons rfl Sub.nil)))))) (fun _ hq => hq) (by (repeat' (first | exact Sub.nil | refine Sub.cons ?_ ?_)); all_goals (first | rfl | exact lkInt rfl (by omega))) (by first | exact True.intro | omega | (dsimp only; omega) | (dsimp only at *; omega)) (fun k hk => ?_)
          refine ct_seq ?_
          refine ct_seq ?_
          refine ct_reg ?_
          refine rl_val gw_none (ov_move rfl) rfl ?_
          refine rl_val gw_none (ov_move rfl) rfl ?_
          refine rl_val gw_none (ov_len Try.underlying27 rfl) rfl ?_
          refine rl_val gw_none (ov_lss rfl rfl) rfl ?_
          refine rl_nil ?_
          refine at_then ?_
          first | refine ct_dec rfl (fun h3 => ?_) (fun h3 => ?_) | refine ct_ndec rfl (fun h3 => ?_) (fun h3 => ?_) | refine ct_eq rfl (fun h3 => ?_) (fun h3 => ?_) | refine ct_ne rfl (fun h3 => ?_) (fun h3 => ?_) | refine ct_not rfl (fun h3 => ?_) (fun h3 => ?_) | refine ct_cond rfl (fun h3 => ?_) (fun h3 => ?_)
          ·
            have hk2 : k < xs.length := by omega
            obtain ⟨b1, rfl⟩ := slSomeG hslx (by omega)
            have hx := getLt hk2
            have hxm := List.getElem_mem hk2
            generalize xs[k] = x at *
            refine ct_skip ?_
            refine at_then ?_
            refine ct_seq ?_
            refine ct_block ?_
            refine ct_seq ?_
            refine ct_reg ?_
            refine rl_val gw_none (ov_move rfl) rfl ?_
            refine rl_val gw_none (ov_move rfl) rfl ?_
            first | refine rl_val gw_none (ov_ix Try.underlying27 sz46 rfl rfl _ rfl (by omega)) rfl ?_ | refine rl_val gw_none (ov_ix Try.underlying27 sz46 rfl rfl (k) (by omega) (by omega)) rfl ?_ | refine rl_val gw_none (ov_ix Try.underlying27 sz46 rfl rfl (0) (by omega) (by omega)) rfl ?_
            refine rl_val gw_none (ov_field fo46_0 rfl) rfl ?_
            refine rl_val gw_none (ov_load 2 sc3 rfl rfl (flatGetG encExhibit_len (f := 0) hx rfl _)) rfl ?_
            refine rl_val gw_none (ov_move rfl) rfl ?_
            refine rl_val gw_none (ov_eql rfl rfl) rfl ?_
            refine rl_nil ?_
            refine at_then ?_
            first | refine ct_dec rfl (fun h4 => ?_) (fun h4 => ?_) | refine ct_ndec rfl (fun h4 => ?_) (fun h4 => ?_) | refine ct_eq rfl (fun h4 => ?_) (fun h4 => ?_) | refine ct_ne rfl (fun h4 => ?_) (fun h4 => ?_) | refine ct_not rfl (fun h4 => ?_) (fun h4 => ?_) | refine ct_cond rfl (fun h4 => ?_) (fun h4 => ?_)
            ·
              skip
              refine ct_reg ?_
              refine rl_val gw_none (ov_move rfl) rfl ?_
              refine rl_val gw_none (ov_move rfl) rfl ?_
              first | refine rl_val gw_none (ov_ix Try.underlying27 sz46 rfl rfl _ rfl (by omega)) rfl ?_ | refine rl_val gw_none (ov_ix Try.underlying27 sz46 rfl rfl (k) (by omega) (by omega)) rfl ?_ | refine rl_val gw_none (ov_ix Try.underlying27 sz46 rfl rfl (0) (by omega) (by omega)) rfl ?_
              refine rl_val gw_none (ov_field fo46_2 rfl) rfl ?_
              refine rl_val gw_none (ov_load 2 sc3 rfl rfl (flatGetG encExhibit_len (f := 2) hx rfl _)) rfl ?_
              refine rl_val gw_none (ov_assign rfl) rfl ?_
              refine rl_nil ?_
              refine at_block ?_
              refine at_then ?_
              refine ct_reg ?_
              refine rl_val gw_none (ov_move rfl) rfl ?_
              refine rl_val gw_none (ov_add rfl rfl (by omega)) rfl ?_
              refine rl_val gw_none (ov_assign rfl) rfl ?_
              refine rl_nil ?_
              exact at_backR (k + 1) (by first | exact True.intro | omega | (dsimp only; omega) | (dsimp only at *; omega)) (by first | exact True.intro | omega | (dsimp only; omega) | (dsimp only at *; omega)) (by (repeat' (first | exact Sub.nil | refine Sub.cons ?_ ?_)); all_goals (first | rfl | exact lkInt rfl (by omega) | exact lkInt rfl (by rw [madeT_snoc hx]; first | (rw [if_pos (by assumption)]; done) | (rw [if_neg (by assumption)]; done)))) (Sub.cons rfl (Sub.cons rfl (Sub.cons rfl (Sub.cons rfl (Sub.cons rfl (Sub.cons rfl Sub.nil)))))) (fun _ hq => hq)
            ·
              skip
              refine ct_skip ?_
              refine at_block ?_
              refine at_then ?_
              refine ct_reg ?_
              refine rl_val gw_none (ov_move rfl) rfl ?_
              refine rl_val gw_none (ov_add rfl rfl (by omega)) rfl ?_
              refine rl_val gw_none (ov_assign rfl) rfl ?_
              refine rl_nil ?_
              exact at_backR (k + 1) (by first | exact True.intro | omega | (dsimp only; omega) | (dsimp only at *; omega)) (by first | exact True.intro | omega | (dsimp only; omega) | (dsimp only at *; omega)) (by (repeat' (first | exact Sub.nil | refine Sub.cons ?_ ?_)); all_goals (first | rfl | exact lkInt rfl (by omega) | exact lkInt rfl (by rw [madeT_snoc hx]; first | (rw [if_pos (by assumption)]; done) | (rw [if_neg (by assumption)]; done)))) (Sub.cons rfl (Sub.cons rfl (Sub.cons rfl (Sub.cons rfl (Sub.cons rfl (Sub.cons rfl Sub.nil)))))) (fun _ hq => hq)
          ·
            have hke : k = xs.length := by omega
            subst hke
            refine ct_exit ?_
            refine at_then_exit ?_
            refine at_then_exit ?_
            refine at_block_hit ?_
            refine at_then ?_
            refine ct_seq ?_
            refine ct_reg ?_
            refine rl_val gw_none (ov_assign rfl) rfl ?_
            refine rl_nil ?_
            refine at_then ?_
            refine ct_block ?_
            refine ct_loopR (ι := Nat) (fun k => [(12, .int .i64 k)]) [(0, _), (3, _), (4, _), (9, _), (10, _)] (fun _ => _) (fun k => k ≤ xs.length) (fun k => xs.length - k) (0) (Sub.cons rfl (Sub.cons rfl (Sub.cons rfl (Sub.cons rfl (Sub.cons rfl Sub.nil))))) (fun _ hq => hq) (by (repeat' (first | exact Sub.nil | refine Sub.cons ?_ ?_)); all_goals (first | rfl | exact lkInt rfl (by omega))) (by first | exact True.intro | omega | (dsimp only; omega) | (dsimp only at *; omega)) (fun k hk => ?_)
            refine ct_seq ?_
            refine ct_seq ?_
            refine ct_reg ?_
            refine rl_val gw_none (ov_move rfl) rfl ?_
            refine rl_val gw_none (ov_move rfl) rfl ?_
            refine rl_val gw_none (ov_len Try.underlying27 rfl) rfl ?_
            refine rl_val gw_none (ov_lss rfl rfl) rfl ?_
            refine rl_nil ?_
            refine at_then ?_
            first | refine ct_dec rfl (fun h5 => ?_) (fun h5 => ?_) | refine ct_ndec rfl (fun h5 => ?_) (fun h5 => ?_) | refine ct_eq rfl (fun h5 => ?_) (fun h5 => ?_) | refine ct_ne rfl (fun h5 => ?_) (fun h5 => ?_) | refine ct_not rfl (fun h5 => ?_) (fun h5 => ?_) | refine ct_cond rfl (fun h5 => ?_) (fun h5 => ?_)
            ·
              have hk2 : k < xs.length := by omega
              obtain ⟨b1, rfl⟩ := slSomeG hslx (by omega)
              have hx := getLt hk2
              have hxm := List.getElem_mem hk2
              generalize xs[k] = x at *
              have hmd : madeT (xs.take xs.length) y0.id = y0.made := by rw [List.take_length]; exact hmt
              have hmn := hmin x hxm
              have hall := lands_all hok hxm
              refine ct_skip ?_
              refine at_then ?_
              refine ct_seq ?_
              refine ct_block ?_
              refine ct_seq ?_
              refine ct_reg ?_
              refine rl_val gw_none (ov_move rfl) rfl ?_
              refine rl_val gw_none (ov_not rfl) rfl ?_
              refine rl_val gw_none (ov_move rfl) rfl ?_
              refine rl_split (t := 89) rfl (fun g2 => ?_) (fun g2 => ?_)
              ·
                exfalso; first | (simp at g2; omega) | (simp at g2; done) | (simp_all; done)
              ·
                refine rl_val (gw_some rfl rfl g2) (ov_move rfl) rfl ?_
                refine rl_val (gw_some rfl rfl g2) (ov_move rfl) rfl ?_
                first | refine rl_val (gw_some rfl rfl g2) (ov_ix Try.underlying27 sz46 rfl rfl _ rfl (by omega)) rfl ?_ | refine rl_val (gw_some rfl rfl g2) (ov_ix Try.underlying27 sz46 rfl rfl (k) (by omega) (by omega)) rfl ?_ | refine rl_val (gw_some rfl rfl g2) (ov_ix Try.underlying27 sz46 rfl rfl (0) (by omega) (by omega)) rfl ?_
                refine rl_val (gw_some rfl rfl g2) (ov_field fo46_2 rfl) rfl ?_
                refine rl_val (gw_some rfl rfl g2) (ov_load 2 sc3 rfl rfl (flatGetG encExhibit_len (f := 2) hx rfl _)) rfl ?_
                refine rl_val (gw_some rfl rfl g2) (ov_move rfl) rfl ?_
                refine rl_val (gw_some rfl rfl g2) (ov_lss rfl rfl) rfl ?_
                refine rl_val gw_none (ov_pick_f rfl g2 rfl) rfl ?_
                refine rl_val gw_none (ov_move rfl) rfl ?_
                refine rl_split (t := 98) rfl (fun g3 => ?_) (fun g3 => ?_)
                ·
                  exfalso; first | (simp at g3; omega) | (simp at g3; done) | (simp_all; done)
                ·
                  refine rl_val (gw_some rfl rfl g3) (ov_move rfl) rfl ?_
                  refine rl_val (gw_some rfl rfl g3) (ov_move rfl) rfl ?_
                  refine rl_val (gw_some rfl rfl g3) (ov_move rfl) rfl ?_
                  first | refine rl_val (gw_some rfl rfl g3) (ov_ix Try.underlying27 sz46 rfl rfl _ rfl (by omega)) rfl ?_ | refine rl_val (gw_some rfl rfl g3) (ov_ix Try.underlying27 sz46 rfl rfl (k) (by omega) (by omega)) rfl ?_ | refine rl_val (gw_some rfl rfl g3) (ov_ix Try.underlying27 sz46 rfl rfl (0) (by omega) (by omega)) rfl ?_
                  refine rl_val (gw_some rfl rfl g3) (ov_field fo46_1 rfl) rfl ?_
                  refine rl_val (gw_some rfl rfl g3) (ov_load 2 sc9 rfl rfl (flatGetG encExhibit_len (f := 1) hx rfl _)) rfl ?_
                  refine rl_callv (gw_some rfl rfl g3) goes25 rfl (fun w1 hp => rHasText_c (landsR xs) x.land _ _ (hp.slsr 1 rfl hsD1)) rfl ?_
                  refine rl_val (gw_some rfl rfl g3) (ov_not rfl) rfl ?_
                  refine rl_val gw_none (ov_pick_f rfl g3 rfl) rfl ?_
                  refine rl_nil ?_
                  refine at_then ?_
                  first | refine ct_dec rfl (fun h6 => ?_) (fun h6 => ?_) | refine ct_ndec rfl (fun h6 => ?_) (fun h6 => ?_) | refine ct_eq rfl (fun h6 => ?_) (fun h6 => ?_) | refine ct_ne rfl (fun h6 => ?_) (fun h6 => ?_) | refine ct_not rfl (fun h6 => ?_) (fun h6 => ?_) | refine ct_cond rfl (fun h6 => ?_) (fun h6 => ?_)
                  ·
                    exfalso; first | omega | exact absurd rfl h6 | (simp at h6; done) | (simp_all; done)
                  ·
                    refine ct_skip ?_
                    refine at_block ?_
                    refine at_then ?_
                    refine ct_reg ?_
                    refine rl_val gw_none (ov_move rfl) rfl ?_
                    refine rl_val gw_none (ov_add rfl rfl (by omega)) rfl ?_
                    refine rl_val gw_none (ov_assign rfl) rfl ?_
                    refine rl_nil ?_
                    exact at_backR (k + 1) (by first | exact True.intro | omega | (dsimp only; omega) | (dsimp only at *; omega)) (by first | exact True.intro | omega | (dsimp only; omega) | (dsimp only at *; omega)) (by (repeat' (first | exact Sub.nil | refine Sub.cons ?_ ?_)); all_goals (first | rfl | exact lkInt rfl (by omega))) (Sub.cons rfl (Sub.cons rfl (Sub.cons rfl (Sub.cons rfl (Sub.cons rfl Sub.nil))))) (fun _ hq => hq)
            ·
              skip
              refine ct_exit ?_
              refine at_then_exit ?_
              refine at_then_exit ?_
              refine at_block_hit ?_
              exact at_handR () trivial (by (repeat' (first | exact Sub.nil | refine Sub.cons ?_ ?_)); all_goals (first | rfl | exact lkInt rfl (by omega))) (Sub.cons rfl Sub.nil) (fun _ hq => hq)
        ·
          skip
          refine ct_skip ?_
          exact at_handR () trivial (by (repeat' (first | exact Sub.nil | refine Sub.cons ?_ ?_)); all_goals (first | rfl | exact lkInt rfl (by omega))) (Sub.cons rfl Sub.nil) (fun _ hq => hq)
      ·
        refine ct_seq ?_
        refine ct_reg ?_
        refine rl_val gw_none (ov_move rfl) rfl ?_
        refine rl_calle (ι := (Option Nat × Nat × List Value × List Exhibit) × ByteArray) (fun q => .tuple #[sv q.1.1 q.1.2.2.2.length q.1.2.1, .string q.2]) (fun q => [(q.1.1, 46, flat encExhibit q.1.2.2.2 ++ q.1.2.2.1)]) (fun q => (Sl 7 q.1.1 q.1.2.2.2.length q.1.2.1 (flat encExhibit q.1.2.2.2) q.1.2.2.1 ∧ q.1.2.2.2.length ≤ 12 ∧ (∀ y ∈ q.1.2.2.2, boundE y)) ∧ q.2.size ≤ 1000) goes26 rfl (fun w1 hp => DrawOldestIn_c _ _ _ _ (hcd.call hp (E := []) (by simp))) rfl (fun qd hqd => ?_)
        obtain ⟨⟨bx2, cx2, px2, xs2⟩, s2⟩ := qd
        obtain ⟨⟨hslx2, hx122, hGx2⟩, hz2⟩ := hqd
        dsimp only at hslx2 hx122 hGx2 hz2
        try dsimp only
        refine rl_val gw_none (ov_move rfl) rfl ?_
        refine rl_val gw_none (ov_extract rfl rfl) rfl ?_
        refine rl_val gw_none (ov_extract rfl rfl) rfl ?_
        refine rl_val gw_none (ov_assign rfl) rfl ?_
        refine rl_val gw_none (ov_assign rfl) rfl ?_
        refine rl_nil ?_
        refine at_then ?_
        refine ct_seq ?_
        refine ct_reg ?_
        refine rl_val gw_none (ov_move rfl) rfl ?_
        refine rl_val gw_none (ov_move rfl) rfl ?_
        refine rl_callv gw_none goes24 rfl (fun w1 hp => iOldestIn_c xs2 s2 _ _ (boundE_all hGx2) (hp.slsr 0 rfl hslx2) (by unfold maxLen; omega)) rfl ?_
        refine rl_val gw_none (ov_move rfl) rfl ?_
        refine rl_val gw_none (ov_extract rfl rfl) rfl ?_
        refine rl_val gw_none (ov_extract rfl rfl) rfl ?_
        refine rl_val gw_none (ov_assign rfl) rfl ?_
        refine rl_val gw_none (ov_assign rfl) rfl ?_
        refine rl_nil ?_
        refine at_then ?_
        refine ct_seq ?_
        refine ct_seq ?_
        refine ct_reg ?_
        refine rl_val gw_none (ov_move rfl) rfl ?_
        refine rl_val gw_none (ov_move rfl) rfl ?_
        refine rl_callv gw_none goes27 rfl (fun w1 hp => sOldestIn_c xs2 s2 _ _ (boundE_all hGx2) (hp.slsr 0 rfl hslx2) (by unfold maxLen; omega)) rfl ?_
        refine rl_val gw_none (ov_move rfl) rfl ?_
        refine rl_val gw_none (ov_extract rfl rfl) rfl ?_
        refine rl_val gw_none (ov_extract rfl rfl) rfl ?_
        refine rl_val gw_none (ov_assign rfl) rfl ?_
        refine rl_val gw_none (ov_assign rfl) rfl ?_
        refine rl_nil ?_
        refine at_then ?_
        refine ct_seq ?_
        refine ct_reg ?_
        refine rl_val gw_none (ov_move rfl) rfl ?_
        refine rl_val gw_none (ov_move rfl) rfl ?_
        refine rl_val gw_none (ov_neq rfl rfl) rfl ?_
        refine rl_val gw_none (ov_move rfl) rfl ?_
        refine rl_split (t := 128) rfl (fun g4 => ?_) (fun g4 => ?_)
        ·
          exfalso; first | (simp at g4; omega) | (simp at g4; done) | (simp_all; done)
        ·
          refine rl_val (gw_some rfl rfl g4) (ov_move rfl) rfl ?_
          refine rl_val (gw_some rfl rfl g4) (ov_move rfl) rfl ?_
          refine rl_val (gw_some rfl rfl g4) (ov_neb Try.underlying4 rfl rfl) rfl ?_
          refine rl_val gw_none (ov_pick_f rfl g4 rfl) rfl ?_
          refine rl_nil ?_
          refine at_then ?_
          first | refine ct_dec rfl (fun h7 => ?_) (fun h7 => ?_) | refine ct_ndec rfl (fun h7 => ?_) (fun h7 => ?_) | refine ct_eq rfl (fun h7 => ?_) (fun h7 => ?_) | refine ct_ne rfl (fun h7 => ?_) (fun h7 => ?_) | refine ct_not rfl (fun h7 => ?_) (fun h7 => ?_) | refine ct_cond rfl (fun h7 => ?_) (fun h7 => ?_)
          ·
            exfalso; first | omega | exact absurd rfl h7 | (simp at h7; done) | (simp_all; done)
          ·
            refine ct_skip ?_
            refine at_then ?_
            refine ct_seq ?_
            refine ct_reg ?_
            refine rl_val gw_none (ov_move rfl) rfl ?_
            refine rl_callx (ι := Exhibit) (fun q => .agg (encExhibit q).toArray) (fun q => boundE q) gw_none goes28 rfl (fun w1 hp => DrawGreatestShown_c _ _ _ _ (hcd.call hp (E := []) (by simp))) rfl (fun x3 hxb3 => ?_)
            refine rl_alloc ze46 rfl (fun N1 => ?_)
            refine rl_store [] sz46 rfl rfl rfl rfl rfl (Nat.le_of_ble_eq_true rfl) ?_
            refine rl_nil ?_
            refine at_then ?_
            refine ct_seq ?_
            refine ct_reg ?_
            first | refine rl_val gw_none (ov_loadall 0 ag46 rfl rfl rfl) rfl ?_ | refine rl_val gw_none (ov_loadp 0 ag46 rfl rfl (vs := [_, _, _, _, _, _, _]) rfl rfl) rfl ?_ | refine rl_val gw_none (ov_loada 0 ag46 rfl rfl rfl (by assumption)) rfl ?_
            refine rl_callv gw_none goes29 rfl (fun w1 hp => iGreatestShown_c x3 _ hxb3.g) rfl ?_
            refine rl_val gw_none (ov_move rfl) rfl ?_
            refine rl_val gw_none (ov_extract rfl rfl) rfl ?_
            refine rl_val gw_none (ov_extract rfl rfl) rfl ?_
            refine rl_val gw_none (ov_assign rfl) rfl ?_
            refine rl_val gw_none (ov_assign rfl) rfl ?_
            refine rl_nil ?_
            refine at_then ?_
            refine ct_seq ?_
            refine ct_seq ?_
            refine ct_reg ?_
            first | refine rl_val gw_none (ov_loadall 0 ag46 rfl rfl rfl) rfl ?_ | refine rl_val gw_none (ov_loadp 0 ag46 rfl rfl (vs := [_, _, _, _, _, _, _]) rfl rfl) rfl ?_ | refine rl_val gw_none (ov_loada 0 ag46 rfl rfl rfl (by assumption)) rfl ?_
            refine rl_callv gw_none goes30 rfl (fun w1 hp => sGreatestShown_c x3 _ hxb3.g) rfl ?_
            refine rl_val gw_none (ov_move rfl) rfl ?_
            refine rl_val gw_none (ov_extract rfl rfl) rfl ?_
            refine rl_val gw_none (ov_extract rfl rfl) rfl ?_
            refine rl_val gw_none (ov_assign rfl) rfl ?_
            refine rl_val gw_none (ov_assign rfl) rfl ?_
            refine rl_nil ?_
            refine at_then ?_
            refine ct_seq ?_
            refine ct_reg ?_
            refine rl_val gw_none (ov_move rfl) rfl ?_
            refine rl_val gw_none (ov_move rfl) rfl ?_
            refine rl_val gw_none (ov_neq rfl rfl) rfl ?_
            refine rl_val gw_none (ov_move rfl) rfl ?_
            refine rl_split (t := 148) rfl (fun g5 => ?_) (fun g5 => ?_)
            ·
              exfalso; first | (simp at g5; omega) | (simp at g5; done) | (simp_all; done)
            ·
              refine rl_val (gw_some rfl rfl g5) (ov_move rfl) rfl ?_
              refine rl_val (gw_some rfl rfl g5) (ov_move rfl) rfl ?_
              refine rl_val (gw_some rfl rfl g5) (ov_neb Try.underlying4 rfl rfl) rfl ?_
              refine rl_val gw_none (ov_pick_f rfl g5 rfl) rfl ?_
              refine rl_val gw_none (ov_move rfl) rfl ?_
              refine rl_split (t := 153) rfl (fun g6 => ?_) (fun g6 => ?_)
              ·
                exfalso; first | (simp at g6; omega) | (simp at g6; done) | (simp_all; done)
              ·
                refine rl_val (gw_some rfl rfl g6) (ov_move rfl) rfl ?_
                refine rl_val (gw_some rfl rfl g6) (ov_gtr rfl rfl) rfl ?_
                refine rl_val gw_none (ov_pick_f rfl g6 rfl) rfl ?_
                refine rl_val gw_none (ov_move rfl) rfl ?_
                refine rl_split (t := 157) rfl (fun g7 => ?_) (fun g7 => ?_)
                ·
                  exfalso; exact grtR_le x3 (of_decide_eq_true g7)
                ·
                  skip
                  refine rl_val (gw_some rfl rfl g7) (ov_move rfl) rfl ?_
                  first | refine rl_val (gw_some rfl rfl g7) (ov_loadall 0 ag46 rfl rfl rfl) rfl ?_ | refine rl_val (gw_some rfl rfl g7) (ov_loadp 0 ag46 rfl rfl (vs := [_, _, _, _, _, _, _]) rfl rfl) rfl ?_ | refine rl_val (gw_some rfl rfl g7) (ov_loada 0 ag46 rfl rfl rfl (by assumption)) rfl ?_
                  refine rl_callv (gw_some rfl rfl g7) goes31 rfl (fun w1 hp => iIsExhibit_c x3 _ hxb3.g) rfl ?_
                  refine rl_val (gw_some rfl rfl g7) (ov_neb Try.underlying4 rfl rfl) rfl ?_
                  refine rl_val gw_none (ov_pick_f rfl g7 rfl) rfl ?_
                  refine rl_nil ?_
                  refine at_then ?_
                  first | refine ct_dec rfl (fun h8 => ?_) (fun h8 => ?_) | refine ct_ndec rfl (fun h8 => ?_) (fun h8 => ?_) | refine ct_eq rfl (fun h8 => ?_) (fun h8 => ?_) | refine ct_ne rfl (fun h8 => ?_) (fun h8 => ?_) | refine ct_not rfl (fun h8 => ?_) (fun h8 => ?_) | refine ct_cond rfl (fun h8 => ?_) (fun h8 => ?_)
                  ·
                    exfalso; first | omega | exact absurd rfl h8 | (simp at h8; done) | (simp_all; done)
                  ·
                    refine ct_skip ?_
                    refine at_then ?_
                    refine ct_seq ?_
                    refine ct_reg ?_
                    refine rl_val gw_none (ov_move rfl) rfl ?_
                    refine rl_callx (ι := Exhibit) (fun q => .agg (encExhibit q).toArray) (fun q => boundE q) gw_none goes32 rfl (fun w1 hp => DrawExhibitText_c _ _ _ _ (hcd.call hp (E := []) (by simp))) rfl (fun x4 hxb4 => ?_)
                    refine rl_alloc ze46 rfl (fun N2 => ?_)
                    refine rl_store [] sz46 rfl rfl rfl rfl rfl (Nat.le_of_ble_eq_true rfl) ?_
                    refine rl_nil ?_
                    refine at_then ?_
                    refine ct_seq ?_
                    refine ct_reg ?_
                    first | refine rl_val gw_none (ov_loadall 0 ag46 rfl rfl rfl) rfl ?_ | refine rl_val gw_none (ov_loadp 0 ag46 rfl rfl (vs := [_, _, _, _, _, _, _]) rfl rfl) rfl ?_ | refine rl_val gw_none (ov_loada 0 ag46 rfl rfl rfl (by assumption)) rfl ?_
                    refine rl_callv gw_none goes33 rfl (fun w1 hp => iExhibitText_c x4 _ hxb4.g) rfl ?_
                    refine rl_val gw_none (ov_move rfl) rfl ?_
                    refine rl_val gw_none (ov_extract rfl rfl) rfl ?_
                    refine rl_val gw_none (ov_extract rfl rfl) rfl ?_
                    refine rl_val gw_none (ov_assign rfl) rfl ?_
                    refine rl_val gw_none (ov_assign rfl) rfl ?_
                    refine rl_nil ?_
                    refine at_then ?_
                    refine ct_seq ?_
                    refine ct_reg ?_
                    first | refine rl_val gw_none (ov_loadall 0 ag46 rfl rfl rfl) rfl ?_ | refine rl_val gw_none (ov_loadp 0 ag46 rfl rfl (vs := [_, _, _, _, _, _, _]) rfl rfl) rfl ?_ | refine rl_val gw_none (ov_loada 0 ag46 rfl rfl rfl (by assumption)) rfl ?_
                    refine rl_callv gw_none goes34 rfl (fun w1 hp => sExhibitText_c x4 _ hxb4.g) rfl ?_
                    refine rl_val gw_none (ov_move rfl) rfl ?_
                    refine rl_val gw_none (ov_extract rfl rfl) rfl ?_
                    refine rl_val gw_none (ov_extract rfl rfl) rfl ?_
                    refine rl_val gw_none (ov_assign rfl) rfl ?_
                    refine rl_val gw_none (ov_assign rfl) rfl ?_
                    refine rl_nil ?_
                    refine at_then ?_
                    refine ct_seq ?_
                    refine ct_reg ?_
                    refine rl_val gw_none (ov_move rfl) rfl ?_
                    refine rl_val gw_none (ov_move rfl) rfl ?_
                    refine rl_val gw_none (ov_seql rfl rfl) rfl ?_
                    refine rl_val gw_none (ov_move rfl) rfl ?_
                    refine rl_split (t := 178) rfl (fun g8 => ?_) (fun g8 => ?_)
                    ·
                      skip
                      refine rl_val (gw_some rfl rfl g8) (ov_move rfl) rfl ?_
                      refine rl_val (gw_some rfl rfl g8) (ov_move rfl) rfl ?_
                      refine rl_val (gw_some rfl rfl g8) (ov_eqb Try.underlying4 rfl rfl) rfl ?_
                      refine rl_val gw_none (ov_pick_t rfl g8 rfl) rfl ?_
                      refine rl_val gw_none (ov_assign rfl) rfl ?_
                      refine rl_nil ?_
                      refine at_then ?_
                      refine ct_ret ?_
                      refine at_ret1 Try.results5 (ro_tmp rfl) (fun w1 hp => ?_)
                      refine ⟨?_, hp.ext0⟩
                      first | rfl | (simp; done)
                    ·
                      exfalso; simp at g8
end Go.Proofs.Ytfelindekikaeaa
