import Derived.Test.YtnnhkpecgchgiaaYi
import Derived.Test.YtnnhkpecgchgiaaVa
import Derived.KernelRfl
set_option linter.unusedVariables false
set_option linter.unusedSimpArgs false
namespace Go.Proofs.Ytnnhkpecgchgiaa
open Go Go.RowKit K
theorem setRodR_frame {u l rod d : Int} {xs : List IntA2} (h : (setRodR u l xs rod d).ok = true) : frameB (setRodR u l xs rod d).u (setRodR u l xs rod d).l (setRodR u l xs rod d).xs = true := by
  rcases Bool.eq_false_or_eq_true (frameB u l xs && inB rod 0 ((xs.length : Int) - 1) && inB d 0 9) with hh | hh
  · unfold setRodR
    rw [okR_yes hh]
    simp only [Bool.and_eq_true] at hh
    have h3 := hh.2
    unfold inB at h3
    simp only [Bool.and_eq_true, decide_eq_true_eq] at h3
    exact frameB_set hh.1.1 _ h3
  · rw [setRodR, okR_no hh] at h; cases h

theorem law_FnNumbers (cs : List Int) (vcs : Value) (w : World) (hGcs : ∀ x ∈ cs, 0 ≤ x ∧ x ≤ 255) (hscs : SR w 1 vcs cs.length (flat (fun i => [Value.int .u8 i]) cs)) : Calls Try.prog 12 ([vcs]).toArray w (fun e w' => e = .returned (.bool true) ∧ Ext w w') := by
  obtain ⟨a, capc, rfl, _, _⟩ := hscs.slice
  have hlenc := hscs.len_le
  have hcd := CodeOk.ofF hscs hGcs
  refine calls_ct Try.func12 Try.ntmps12 rfl rfl ?_
  refine ct_seq ?_
  refine ct_reg ?_
  refine rl_val gw_none (ov_assign rfl) rfl ?_
  refine rl_nil ?_
  refine at_then ?_
  refine ct_seq ?_
  refine ct_seq ?_
  refine ct_reg ?_
  refine rl_val gw_none (ov_move rfl) rfl ?_
  refine rl_callv gw_none goes46 rfl (fun w1 hp => vBig_c _ _ _ _ hlenc) rfl ?_
  refine rl_nil ?_
  refine at_then ?_
  first | refine ct_dec rfl (fun h1 => ?_) (fun h1 => ?_) | refine ct_ndec rfl (fun h1 => ?_) (fun h1 => ?_) | refine ct_eq rfl (fun h1 => ?_) (fun h1 => ?_) | refine ct_ne rfl (fun h1 => ?_) (fun h1 => ?_) | refine ct_not rfl (fun h1 => ?_) (fun h1 => ?_) | refine ct_cond rfl (fun h1 => ?_) (fun h1 => ?_)
  ·
    skip
    refine ct_seq ?_
    refine ct_reg ?_
    refine rl_val gw_none (ov_assign rfl) rfl ?_
    refine rl_nil ?_
    refine at_then ?_
    refine ct_ret ?_
    refine at_then_ret ?_
    refine at_ret1 Try.results12 (ro_tmp rfl) (fun w1 hp => ?_)
    refine ⟨?_, hp.ext0⟩
    first | rfl | (simp; done) | (rw [hn6]; rfl)
  ·
    refine ct_skip ?_
    refine at_then ?_
    refine ct_seq ?_
    refine ct_reg ?_
    refine rl_val gw_none (ov_move rfl) rfl ?_
    refine rl_callx (ι := Int × Int × Int × Int) (fun q => .tuple #[.int .i64 q.1, .int .i64 q.2.1, .int .i64 q.2.2.1, .int .i64 q.2.2.2]) (fun q => In64 q.1 ∧ In64 q.2.1 ∧ In64 q.2.2.1 ∧ In64 q.2.2.2) gw_none goes47 rfl (fun w1 hp => DrawFrameFor_c _ _ _ _ (hcd.call hp (E := []) (by simp))) rfl (fun q0 hq0 => ?_)
    obtain ⟨u, l, rods, n⟩ := q0
    obtain ⟨zu, zl, zrods, zn⟩ := hq0
    dsimp only at zu zl zrods zn
    try dsimp only
    refine rl_val gw_none (ov_move rfl) rfl ?_
    refine rl_val gw_none (ov_extract rfl rfl) rfl ?_
    refine rl_val gw_none (ov_extract rfl rfl) rfl ?_
    refine rl_val gw_none (ov_extract rfl rfl) rfl ?_
    refine rl_val gw_none (ov_extract rfl rfl) rfl ?_
    refine rl_val gw_none (ov_assign rfl) rfl ?_
    refine rl_val gw_none (ov_assign rfl) rfl ?_
    refine rl_val gw_none (ov_assign rfl) rfl ?_
    refine rl_val gw_none (ov_assign rfl) rfl ?_
    refine rl_nil ?_
    refine at_then ?_
    refine ct_seq ?_
    refine ct_reg ?_
    refine rl_val gw_none (ov_move rfl) rfl ?_
    refine rl_val gw_none (ov_move rfl) rfl ?_
    refine rl_val gw_none (ov_move rfl) rfl ?_
    refine rl_val gw_none (ov_move rfl) rfl ?_
    refine rl_callsl (ι := Nat × List Value) (fun i bo => .tuple #[.agg [.int .i64 (frameForR u l rods n).u, .int .i64 (frameForR u l rods n).l, sv bo (frameForR u l rods n).xs.length i.1].toArray, .bool (frameForR u l rods n).ok]) (fun i => flat encIntA2 (frameForR u l rods n).xs ++ i.2) (fun i bo => Sl 2 bo (frameForR u l rods n).xs.length i.1 (flat encIntA2 (frameForR u l rods n).xs) i.2) goes48 rfl (fun w1 hp => iFrameFor_c u l rods n _ zu zl zrods zn) rfl (fun iF1 boF1 hsF1 => ?_)
    refine rl_val gw_none (ov_move rfl) rfl ?_
    refine rl_val gw_none (ov_extract rfl rfl) rfl ?_
    refine rl_val gw_none (ov_extract rfl rfl) rfl ?_
    refine rl_alloc ze26 rfl (fun N1 => ?_)
    refine rl_store [] sz26 rfl rfl rfl rfl rfl (Nat.le_of_ble_eq_true rfl) ?_
    refine rl_val gw_none (ov_assign rfl) rfl ?_
    refine rl_nil ?_
    refine at_then ?_
    refine ct_seq ?_
    refine ct_seq ?_
    refine ct_reg ?_
    refine rl_val gw_none (ov_move rfl) rfl ?_
    refine rl_val gw_none (ov_move rfl) rfl ?_
    refine rl_val gw_none (ov_move rfl) rfl ?_
    refine rl_val gw_none (ov_move rfl) rfl ?_
    refine rl_callsl (ι := Nat × List Value) (fun i bo => .tuple #[.agg [.int .i64 (frameForR u l rods n).u, .int .i64 (frameForR u l rods n).l, sv bo (frameForR u l rods n).xs.length i.1].toArray, .bool (frameForR u l rods n).ok]) (fun i => flat encIntA2 (frameForR u l rods n).xs ++ i.2) (fun i bo => Sl 2 bo (frameForR u l rods n).xs.length i.1 (flat encIntA2 (frameForR u l rods n).xs) i.2) goes49 rfl (fun w1 hp => sFrameFor_c u l rods n _ zu zl zrods zn) rfl (fun iF2 boF2 hsF2 => ?_)
    refine rl_val gw_none (ov_move rfl) rfl ?_
    refine rl_val gw_none (ov_extract rfl rfl) rfl ?_
    refine rl_val gw_none (ov_extract rfl rfl) rfl ?_
    refine rl_alloc ze26 rfl (fun N2 => ?_)
    refine rl_store [] sz26 rfl rfl rfl rfl rfl (Nat.le_of_ble_eq_true rfl) ?_
    refine rl_val gw_none (ov_assign rfl) rfl ?_
    refine rl_nil ?_
    refine at_then ?_
    refine ct_seq ?_
    refine ct_reg ?_
    refine rl_val gw_none (ov_move rfl) rfl ?_
    refine rl_val gw_none (ov_move rfl) rfl ?_
    refine rl_val gw_none (ov_neb Try.underlying4 rfl rfl) rfl ?_
    refine rl_val gw_none (ov_move rfl) rfl ?_
    refine rl_split (t := 67) rfl (fun g1 => ?_) (fun g1 => ?_)
    ·
      exfalso; first | (simp at g1; omega) | (simp at g1; done) | (simp_all; done)
    ·
      first | refine rl_val (gw_some rfl rfl g1) (ov_loadall 2 ag26 rfl rfl rfl) rfl ?_ | refine rl_val (gw_some rfl rfl g1) (ov_loadp 2 ag26 rfl rfl (vs := [_, _, _]) rfl rfl) rfl ?_ | refine rl_val (gw_some rfl rfl g1) (ov_loada 2 ag26 rfl rfl rfl (by assumption)) rfl ?_
      first | refine rl_val (gw_some rfl rfl g1) (ov_loadall 0 ag26 rfl rfl rfl) rfl ?_ | refine rl_val (gw_some rfl rfl g1) (ov_loadp 0 ag26 rfl rfl (vs := [_, _, _]) rfl rfl) rfl ?_ | refine rl_val (gw_some rfl rfl g1) (ov_loada 0 ag26 rfl rfl rfl (by assumption)) rfl ?_
      refine rl_callv (gw_some rfl rfl g1) goes50 rfl (fun w1 hp => vFrame_c _ _ _ _ _ _ (hp.slsr 3 rfl hsF1) (hp.slsr 1 rfl hsF2)) rfl ?_
      refine rl_val (gw_some rfl rfl g1) (ov_not rfl) rfl ?_
      refine rl_val gw_none (ov_pick_f rfl g1 rfl) rfl ?_
      refine rl_nil ?_
      refine at_then ?_
      refine ct_false rfl rfl ?_
      refine ct_skip ?_
      refine at_then ?_
      refine ct_cutS (ι := Unit) (fun _ => []) [(0, _)] _ (fun _ => True) (Sub.cons rfl Sub.nil) (fun _ hq => hq) ?_ (fun _ _ => ?_)
      ·
        refine ct_seq ?_
        refine ct_reg ?_
        refine rl_val gw_none (ov_move rfl) rfl ?_
        refine rl_nil ?_
        refine at_then ?_
        first | refine ct_dec rfl (fun h2 => ?_) (fun h2 => ?_) | refine ct_ndec rfl (fun h2 => ?_) (fun h2 => ?_) | refine ct_eq rfl (fun h2 => ?_) (fun h2 => ?_) | refine ct_ne rfl (fun h2 => ?_) (fun h2 => ?_) | refine ct_not rfl (fun h2 => ?_) (fun h2 => ?_) | refine ct_cond rfl (fun h2 => ?_) (fun h2 => ?_)
        ·
          obtain ⟨hb4, hn4⟩ := frameForR_facts (by simpa using h2)
          have hbu4 := frameB_ul hb4
          have zu4 : In64 (frameForR u l rods n).u := by unfold In64; omega
          have zl4 : In64 (frameForR u l rods n).l := by unfold In64; omega
          refine ct_seq ?_
          refine ct_reg ?_
          first | refine rl_val gw_none (ov_loadall 2 ag26 rfl rfl rfl) rfl ?_ | refine rl_val gw_none (ov_loadp 2 ag26 rfl rfl (vs := [_, _, _]) rfl rfl) rfl ?_ | refine rl_val gw_none (ov_loada 2 ag26 rfl rfl rfl (by assumption)) rfl ?_
          refine rl_callv gw_none goes51 rfl (fun w1 hp => iNumberOn_y _ _ _ _ _ zu4 zl4 (frameB_G hb4) (hp.slsr 3 rfl hsF1) hb4) rfl ?_
          refine rl_val gw_none (ov_move rfl) rfl ?_
          refine rl_val gw_none (ov_extract rfl rfl) rfl ?_
          refine rl_val gw_none (ov_extract rfl rfl) rfl ?_
          refine rl_val gw_none (ov_assign rfl) rfl ?_
          refine rl_val gw_none (ov_assign rfl) rfl ?_
          refine rl_nil ?_
          refine at_then ?_
          refine ct_seq ?_
          refine ct_reg ?_
          refine rl_val gw_none (ov_move rfl) rfl ?_
          refine rl_val gw_none (ov_not rfl) rfl ?_
          refine rl_val gw_none (ov_move rfl) rfl ?_
          refine rl_split (t := 81) rfl (fun g2 => ?_) (fun g2 => ?_)
          ·
            exfalso; first | (simp at g2; omega) | (simp at g2; done) | (simp_all; done)
          ·
            refine rl_val (gw_some rfl rfl g2) (ov_move rfl) rfl ?_
            refine rl_val (gw_some rfl rfl g2) (ov_move rfl) rfl ?_
            refine rl_val (gw_some rfl rfl g2) (ov_neq rfl rfl) rfl ?_
            refine rl_val gw_none (ov_pick_f rfl g2 rfl) rfl ?_
            refine rl_nil ?_
            refine at_then ?_
            first | refine ct_dec rfl (fun h3 => ?_) (fun h3 => ?_) | refine ct_ndec rfl (fun h3 => ?_) (fun h3 => ?_) | refine ct_eq rfl (fun h3 => ?_) (fun h3 => ?_) | refine ct_ne rfl (fun h3 => ?_) (fun h3 => ?_) | refine ct_not rfl (fun h3 => ?_) (fun h3 => ?_) | refine ct_cond rfl (fun h3 => ?_) (fun h3 => ?_)
            ·
              exfalso; first | omega | exact absurd rfl h3 | (simp at h3; done) | (simp_all; done)
            ·
              refine ct_skip ?_
              exact at_handR () trivial (by (repeat' (first | exact Sub.nil | refine Sub.cons ?_ ?_)); all_goals (first | rfl | exact lkInt rfl (by omega))) (Sub.cons rfl Sub.nil) (fun _ hq => hq)
        ·
          skip
          refine ct_skip ?_
          exact at_handR () trivial (by (repeat' (first | exact Sub.nil | refine Sub.cons ?_ ?_)); all_goals (first | rfl | exact lkInt rfl (by omega))) (Sub.cons rfl Sub.nil) (fun _ hq => hq)
      ·
        refine ct_seq ?_
        refine ct_reg ?_
        refine rl_val gw_none (ov_move rfl) rfl ?_
        refine rl_calle (ι := (Int × Int × Option Nat × Nat × List Value × List IntA2) × Int × Int) (fun q => .tuple #[.agg [.int .i64 q.1.1, .int .i64 q.1.2.1, sv q.1.2.2.1 q.1.2.2.2.2.2.length q.1.2.2.2.1].toArray, .int .i64 q.2.1, .int .i64 q.2.2]) (fun q => [(q.1.2.2.1, 81, flat encIntA2 q.1.2.2.2.2.2 ++ q.1.2.2.2.2.1)]) (fun q => ((-10 ≤ q.1.1 ∧ q.1.1 ≤ 10) ∧ (-10 ≤ q.1.2.1 ∧ q.1.2.1 ≤ 10) ∧ Sl 2 q.1.2.2.1 q.1.2.2.2.2.2.length q.1.2.2.2.1 (flat encIntA2 q.1.2.2.2.2.2) q.1.2.2.2.2.1 ∧ (1 ≤ q.1.2.2.2.2.2.length ∧ q.1.2.2.2.2.2.length ≤ 10) ∧ (∀ y ∈ q.1.2.2.2.2.2, GIntA2 y)) ∧ In64 q.2.1 ∧ In64 q.2.2) goes52 rfl (fun w1 hp => DrawSetRod_c _ _ _ _ (hcd.call hp (E := []) (by simp))) rfl (fun qd hqd => ?_)
        obtain ⟨⟨u1, l1, bo1, cap1, pad1, xs1⟩, n1, d1⟩ := qd
        obtain ⟨⟨hu1, hl1, hsl1, hxl1, hG1⟩, zn1, zd1⟩ := hqd
        dsimp only at hu1 hl1 hsl1 hxl1 hG1 zn1 zd1
        try dsimp only
        have zu1 : In64 u1 := by unfold In64; omega
        have zl1 : In64 l1 := by unfold In64; omega
        refine rl_val gw_none (ov_move rfl) rfl ?_
        refine rl_val gw_none (ov_extract rfl rfl) rfl ?_
        refine rl_val gw_none (ov_extract rfl rfl) rfl ?_
        refine rl_val gw_none (ov_extract rfl rfl) rfl ?_
        refine rl_alloc ze26 rfl (fun N3 => ?_)
        refine rl_store [] sz26 rfl rfl rfl rfl rfl (Nat.le_of_ble_eq_true rfl) ?_
        refine rl_val gw_none (ov_assign rfl) rfl ?_
        refine rl_val gw_none (ov_assign rfl) rfl ?_
        refine rl_nil ?_
        refine at_then ?_
        refine ct_seq ?_
        refine ct_reg ?_
        first | refine rl_val gw_none (ov_loadall 0 ag26 rfl rfl rfl) rfl ?_ | refine rl_val gw_none (ov_loadp 0 ag26 rfl rfl (vs := [_, _, _]) rfl rfl) rfl ?_ | refine rl_val gw_none (ov_loada 0 ag26 rfl rfl rfl (by assumption)) rfl ?_
        refine rl_val gw_none (ov_move rfl) rfl ?_
        refine rl_val gw_none (ov_move rfl) rfl ?_
        refine rl_callsl (ι := Nat × List Value) (fun i bo => .tuple #[.agg [.int .i64 (setRodR u1 l1 xs1 n1 d1).u, .int .i64 (setRodR u1 l1 xs1 n1 d1).l, sv bo (setRodR u1 l1 xs1 n1 d1).xs.length i.1].toArray, .bool (setRodR u1 l1 xs1 n1 d1).ok]) (fun i => flat encIntA2 (setRodR u1 l1 xs1 n1 d1).xs ++ i.2) (fun i bo => Sl 2 bo (setRodR u1 l1 xs1 n1 d1).xs.length i.1 (flat encIntA2 (setRodR u1 l1 xs1 n1 d1).xs) i.2) goes53 rfl (fun w1 hp => iSetRod_c u1 l1 xs1 n1 d1 _ _ zu1 zl1 hG1 (hp.slsr 1 rfl hsl1) zn1 zd1) rfl (fun iS1 boS1 hsS1 => ?_)
        refine rl_val gw_none (ov_move rfl) rfl ?_
        refine rl_val gw_none (ov_extract rfl rfl) rfl ?_
        refine rl_val gw_none (ov_extract rfl rfl) rfl ?_
        refine rl_alloc ze26 rfl (fun N4 => ?_)
        refine rl_store [] sz26 rfl rfl rfl rfl rfl (Nat.le_of_ble_eq_true rfl) ?_
        refine rl_val gw_none (ov_assign rfl) rfl ?_
        refine rl_nil ?_
        refine at_then ?_
        refine ct_seq ?_
        refine ct_seq ?_
        refine ct_reg ?_
        first | refine rl_val gw_none (ov_loadall 2 ag26 rfl rfl rfl) rfl ?_ | refine rl_val gw_none (ov_loadp 2 ag26 rfl rfl (vs := [_, _, _]) rfl rfl) rfl ?_ | refine rl_val gw_none (ov_loada 2 ag26 rfl rfl rfl (by assumption)) rfl ?_
        refine rl_val gw_none (ov_move rfl) rfl ?_
        refine rl_val gw_none (ov_move rfl) rfl ?_
        refine rl_callsl (ι := Nat × List Value) (fun i bo => .tuple #[.agg [.int .i64 (setRodR u1 l1 xs1 n1 d1).u, .int .i64 (setRodR u1 l1 xs1 n1 d1).l, sv bo (setRodR u1 l1 xs1 n1 d1).xs.length i.1].toArray, .bool (setRodR u1 l1 xs1 n1 d1).ok]) (fun i => flat encIntA2 (setRodR u1 l1 xs1 n1 d1).xs ++ i.2) (fun i bo => Sl 2 bo (setRodR u1 l1 xs1 n1 d1).xs.length i.1 (flat encIntA2 (setRodR u1 l1 xs1 n1 d1).xs) i.2) goes54 rfl (fun w1 hp => sSetRod_c u1 l1 xs1 n1 d1 _ _ zu1 zl1 hG1 (hp.slsr 3 rfl hsl1) zn1 zd1) rfl (fun iS2 boS2 hsS2 => ?_)
        refine rl_val gw_none (ov_move rfl) rfl ?_
        refine rl_val gw_none (ov_extract rfl rfl) rfl ?_
        refine rl_val gw_none (ov_extract rfl rfl) rfl ?_
        refine rl_alloc ze26 rfl (fun N5 => ?_)
        refine rl_store [] sz26 rfl rfl rfl rfl rfl (Nat.le_of_ble_eq_true rfl) ?_
        refine rl_val gw_none (ov_assign rfl) rfl ?_
        refine rl_nil ?_
        refine at_then ?_
        refine ct_seq ?_
        refine ct_reg ?_
        refine rl_val gw_none (ov_move rfl) rfl ?_
        refine rl_val gw_none (ov_move rfl) rfl ?_
        refine rl_val gw_none (ov_neb Try.underlying4 rfl rfl) rfl ?_
        refine rl_val gw_none (ov_move rfl) rfl ?_
        refine rl_split (t := 109) rfl (fun g3 => ?_) (fun g3 => ?_)
        ·
          exfalso; first | (simp at g3; omega) | (simp at g3; done) | (simp_all; done)
        ·
          first | refine rl_val (gw_some rfl rfl g3) (ov_loadall 2 ag26 rfl rfl rfl) rfl ?_ | refine rl_val (gw_some rfl rfl g3) (ov_loadp 2 ag26 rfl rfl (vs := [_, _, _]) rfl rfl) rfl ?_ | refine rl_val (gw_some rfl rfl g3) (ov_loada 2 ag26 rfl rfl rfl (by assumption)) rfl ?_
          first | refine rl_val (gw_some rfl rfl g3) (ov_loadall 0 ag26 rfl rfl rfl) rfl ?_ | refine rl_val (gw_some rfl rfl g3) (ov_loadp 0 ag26 rfl rfl (vs := [_, _, _]) rfl rfl) rfl ?_ | refine rl_val (gw_some rfl rfl g3) (ov_loada 0 ag26 rfl rfl rfl (by assumption)) rfl ?_
          refine rl_callv (gw_some rfl rfl g3) goes50 rfl (fun w1 hp => vFrame_c _ _ _ _ _ _ (hp.slsr 3 rfl hsS1) (hp.slsr 1 rfl hsS2)) rfl ?_
          refine rl_val (gw_some rfl rfl g3) (ov_not rfl) rfl ?_
          refine rl_val gw_none (ov_pick_f rfl g3 rfl) rfl ?_
          refine rl_nil ?_
          refine at_then ?_
          refine ct_false rfl rfl ?_
          refine ct_skip ?_
          refine at_then ?_
          refine ct_cutS (ι := Unit) (fun _ => []) [(0, _)] _ (fun _ => True) (Sub.cons rfl Sub.nil) (fun _ hq => hq) ?_ (fun _ _ => ?_)
          ·
            refine ct_seq ?_
            refine ct_reg ?_
            refine rl_val gw_none (ov_move rfl) rfl ?_
            refine rl_nil ?_
            refine at_then ?_
            first | refine ct_dec rfl (fun h4 => ?_) (fun h4 => ?_) | refine ct_ndec rfl (fun h4 => ?_) (fun h4 => ?_) | refine ct_eq rfl (fun h4 => ?_) (fun h4 => ?_) | refine ct_ne rfl (fun h4 => ?_) (fun h4 => ?_) | refine ct_not rfl (fun h4 => ?_) (fun h4 => ?_) | refine ct_cond rfl (fun h4 => ?_) (fun h4 => ?_)
            ·
              have hok2 : (setRodR u1 l1 xs1 n1 d1).ok = true := by simpa using h4
              have hrv := setRodR_facts hok2
              have hb5 := setRodR_frame hok2
              have hbu5 := frameB_ul hb5
              have zu5 : In64 (setRodR u1 l1 xs1 n1 d1).u := by unfold In64; omega
              have zl5 : In64 (setRodR u1 l1 xs1 n1 d1).l := by unfold In64; omega
              refine ct_seq ?_
              refine ct_reg ?_
              first | refine rl_val gw_none (ov_loadall 2 ag26 rfl rfl rfl) rfl ?_ | refine rl_val gw_none (ov_loadp 2 ag26 rfl rfl (vs := [_, _, _]) rfl rfl) rfl ?_ | refine rl_val gw_none (ov_loada 2 ag26 rfl rfl rfl (by assumption)) rfl ?_
              refine rl_val gw_none (ov_move rfl) rfl ?_
              refine rl_callv gw_none goes55 rfl (fun w1 hp => (by have h := iRodValue_c (setRodR u1 l1 xs1 n1 d1).u (setRodR u1 l1 xs1 n1 d1).l (setRodR u1 l1 xs1 n1 d1).xs n1 _ _ zu5 zl5 (frameB_G hb5) (hp.slsr 3 rfl hsS1) zn1; rw [hrv] at h; exact h)) rfl ?_
              refine rl_val gw_none (ov_move rfl) rfl ?_
              refine rl_val gw_none (ov_extract rfl rfl) rfl ?_
              refine rl_val gw_none (ov_extract rfl rfl) rfl ?_
              refine rl_val gw_none (ov_assign rfl) rfl ?_
              refine rl_val gw_none (ov_assign rfl) rfl ?_
              refine rl_nil ?_
              refine at_then ?_
              refine ct_seq ?_
              refine ct_reg ?_
              refine rl_val gw_none (ov_move rfl) rfl ?_
              refine rl_val gw_none (ov_not rfl) rfl ?_
              refine rl_val gw_none (ov_move rfl) rfl ?_
              refine rl_split (t := 124) rfl (fun g4 => ?_) (fun g4 => ?_)
              ·
                exfalso; first | (simp at g4; omega) | (simp at g4; done) | (simp_all; done)
              ·
                refine rl_val (gw_some rfl rfl g4) (ov_move rfl) rfl ?_
                refine rl_val (gw_some rfl rfl g4) (ov_move rfl) rfl ?_
                refine rl_val (gw_some rfl rfl g4) (ov_neq rfl rfl) rfl ?_
                refine rl_val gw_none (ov_pick_f rfl g4 rfl) rfl ?_
                refine rl_nil ?_
                refine at_then ?_
                first | refine ct_dec rfl (fun h5 => ?_) (fun h5 => ?_) | refine ct_ndec rfl (fun h5 => ?_) (fun h5 => ?_) | refine ct_eq rfl (fun h5 => ?_) (fun h5 => ?_) | refine ct_ne rfl (fun h5 => ?_) (fun h5 => ?_) | refine ct_not rfl (fun h5 => ?_) (fun h5 => ?_) | refine ct_cond rfl (fun h5 => ?_) (fun h5 => ?_)
                ·
                  exfalso; first | omega | exact absurd rfl h5 | (simp at h5; done) | (simp_all; done)
                ·
                  refine ct_skip ?_
                  exact at_handR () trivial (by (repeat' (first | exact Sub.nil | refine Sub.cons ?_ ?_)); all_goals (first | rfl | exact lkInt rfl (by omega))) (Sub.cons rfl Sub.nil) (fun _ hq => hq)
            ·
              skip
              refine ct_skip ?_
              exact at_handR () trivial (by (repeat' (first | exact Sub.nil | refine Sub.cons ?_ ?_)); all_goals (first | rfl | exact lkInt rfl (by omega))) (Sub.cons rfl Sub.nil) (fun _ hq => hq)
          ·
            refine ct_seq ?_
            refine ct_reg ?_
            refine rl_val gw_none (ov_move rfl) rfl ?_
            refine rl_calle (ι := (Int × Int × Option Nat × Nat × List Value × List IntA2) × Int) (fun q => .tuple #[.agg [.int .i64 q.1.1, .int .i64 q.1.2.1, sv q.1.2.2.1 q.1.2.2.2.2.2.length q.1.2.2.2.1].toArray, .int .i64 q.2]) (fun q => [(q.1.2.2.1, 81, flat encIntA2 q.1.2.2.2.2.2 ++ q.1.2.2.2.2.1)]) (fun q => ((-10 ≤ q.1.1 ∧ q.1.1 ≤ 10) ∧ (-10 ≤ q.1.2.1 ∧ q.1.2.1 ≤ 10) ∧ Sl 2 q.1.2.2.1 q.1.2.2.2.2.2.length q.1.2.2.2.1 (flat encIntA2 q.1.2.2.2.2.2) q.1.2.2.2.2.1 ∧ (1 ≤ q.1.2.2.2.2.2.length ∧ q.1.2.2.2.2.2.length ≤ 10) ∧ (∀ y ∈ q.1.2.2.2.2.2, GIntA2 y)) ∧ In64 q.2) goes56 rfl (fun w1 hp => DrawRodValue_c _ _ _ _ (hcd.call hp (E := []) (by simp))) rfl (fun qd hqd => ?_)
            obtain ⟨⟨u2, l2, bo2, cap2, pad2, xs2⟩, n2⟩ := qd
            obtain ⟨⟨hu2, hl2, hsl2, hxl2, hG2⟩, zn2⟩ := hqd
            dsimp only at hu2 hl2 hsl2 hxl2 hG2 zn2
            try dsimp only
            have zu2 : In64 u2 := by unfold In64; omega
            have zl2 : In64 l2 := by unfold In64; omega
            refine rl_val gw_none (ov_move rfl) rfl ?_
            refine rl_val gw_none (ov_extract rfl rfl) rfl ?_
            refine rl_val gw_none (ov_extract rfl rfl) rfl ?_
            refine rl_alloc ze26 rfl (fun N6 => ?_)
            refine rl_store [] sz26 rfl rfl rfl rfl rfl (Nat.le_of_ble_eq_true rfl) ?_
            refine rl_val gw_none (ov_assign rfl) rfl ?_
            refine rl_nil ?_
            refine at_then ?_
            refine ct_seq ?_
            refine ct_reg ?_
            first | refine rl_val gw_none (ov_loadall 0 ag26 rfl rfl rfl) rfl ?_ | refine rl_val gw_none (ov_loadp 0 ag26 rfl rfl (vs := [_, _, _]) rfl rfl) rfl ?_ | refine rl_val gw_none (ov_loada 0 ag26 rfl rfl rfl (by assumption)) rfl ?_
            refine rl_val gw_none (ov_move rfl) rfl ?_
            refine rl_callv gw_none goes55 rfl (fun w1 hp => iRodValue_c u2 l2 xs2 n2 _ _ zu2 zl2 hG2 (hp.slsr 1 rfl hsl2) zn2) rfl ?_
            refine rl_val gw_none (ov_move rfl) rfl ?_
            refine rl_val gw_none (ov_extract rfl rfl) rfl ?_
            refine rl_val gw_none (ov_extract rfl rfl) rfl ?_
            refine rl_val gw_none (ov_assign rfl) rfl ?_
            refine rl_val gw_none (ov_assign rfl) rfl ?_
            refine rl_nil ?_
            refine at_then ?_
            refine ct_seq ?_
            refine ct_seq ?_
            refine ct_reg ?_
            first | refine rl_val gw_none (ov_loadall 0 ag26 rfl rfl rfl) rfl ?_ | refine rl_val gw_none (ov_loadp 0 ag26 rfl rfl (vs := [_, _, _]) rfl rfl) rfl ?_ | refine rl_val gw_none (ov_loada 0 ag26 rfl rfl rfl (by assumption)) rfl ?_
            refine rl_val gw_none (ov_move rfl) rfl ?_
            refine rl_callv gw_none goes57 rfl (fun w1 hp => sRodValue_c u2 l2 xs2 n2 _ _ zu2 zl2 hG2 (hp.slsr 1 rfl hsl2) zn2) rfl ?_
            refine rl_val gw_none (ov_move rfl) rfl ?_
            refine rl_val gw_none (ov_extract rfl rfl) rfl ?_
            refine rl_val gw_none (ov_extract rfl rfl) rfl ?_
            refine rl_val gw_none (ov_assign rfl) rfl ?_
            refine rl_val gw_none (ov_assign rfl) rfl ?_
            refine rl_nil ?_
            refine at_then ?_
            refine ct_seq ?_
            refine ct_reg ?_
            refine rl_val gw_none (ov_move rfl) rfl ?_
            refine rl_val gw_none (ov_move rfl) rfl ?_
            refine rl_val gw_none (ov_neq rfl rfl) rfl ?_
            refine rl_val gw_none (ov_move rfl) rfl ?_
            refine rl_split (t := 149) rfl (fun g5 => ?_) (fun g5 => ?_)
            ·
              exfalso; first | (simp at g5; omega) | (simp at g5; done) | (simp_all; done)
            ·
              refine rl_val (gw_some rfl rfl g5) (ov_move rfl) rfl ?_
              refine rl_val (gw_some rfl rfl g5) (ov_move rfl) rfl ?_
              refine rl_val (gw_some rfl rfl g5) (ov_neb Try.underlying4 rfl rfl) rfl ?_
              refine rl_val gw_none (ov_pick_f rfl g5 rfl) rfl ?_
              refine rl_nil ?_
              refine at_then ?_
              first | refine ct_dec rfl (fun h6 => ?_) (fun h6 => ?_) | refine ct_ndec rfl (fun h6 => ?_) (fun h6 => ?_) | refine ct_eq rfl (fun h6 => ?_) (fun h6 => ?_) | refine ct_ne rfl (fun h6 => ?_) (fun h6 => ?_) | refine ct_not rfl (fun h6 => ?_) (fun h6 => ?_) | refine ct_cond rfl (fun h6 => ?_) (fun h6 => ?_)
              ·
                exfalso; first | omega | exact absurd rfl h6 | (simp at h6; done) | (simp_all; done)
              ·
                refine ct_skip ?_
                refine at_then ?_
                refine ct_seq ?_
                refine ct_reg ?_
                refine rl_val gw_none (ov_move rfl) rfl ?_
                refine rl_calle (ι := Int × Int × Option Nat × Nat × List Value × List IntA2) (fun q => .agg [.int .i64 q.1, .int .i64 q.2.1, sv q.2.2.1 q.2.2.2.2.2.length q.2.2.2.1].toArray) (fun q => [(q.2.2.1, 81, flat encIntA2 q.2.2.2.2.2 ++ q.2.2.2.2.1)]) (fun q => (-10 ≤ q.1 ∧ q.1 ≤ 10) ∧ (-10 ≤ q.2.1 ∧ q.2.1 ≤ 10) ∧ Sl 2 q.2.2.1 q.2.2.2.2.2.length q.2.2.2.1 (flat encIntA2 q.2.2.2.2.2) q.2.2.2.2.1 ∧ (1 ≤ q.2.2.2.2.2.length ∧ q.2.2.2.2.2.length ≤ 10) ∧ (∀ y ∈ q.2.2.2.2.2, GIntA2 y)) goes58 rfl (fun w1 hp => DrawNumberOn_c _ _ _ _ (hcd.call hp (E := []) (by simp))) rfl (fun qd hqd => ?_)
                obtain ⟨u3, l3, bo3, cap3, pad3, xs3⟩ := qd
                obtain ⟨hu3, hl3, hsl3, hxl3, hG3⟩ := hqd
                dsimp only at hu3 hl3 hsl3 hxl3 hG3 
                try dsimp only
                have zu3 : In64 u3 := by unfold In64; omega
                have zl3 : In64 l3 := by unfold In64; omega
                refine rl_alloc ze26 rfl (fun N7 => ?_)
                refine rl_store [] sz26 rfl rfl rfl rfl rfl (Nat.le_of_ble_eq_true rfl) ?_
                refine rl_nil ?_
                refine at_then ?_
                refine ct_seq ?_
                refine ct_reg ?_
                first | refine rl_val gw_none (ov_loadall 0 ag26 rfl rfl rfl) rfl ?_ | refine rl_val gw_none (ov_loadp 0 ag26 rfl rfl (vs := [_, _, _]) rfl rfl) rfl ?_ | refine rl_val gw_none (ov_loada 0 ag26 rfl rfl rfl (by assumption)) rfl ?_
                refine rl_callv gw_none goes51 rfl (fun w1 hp => iNumberOn_c u3 l3 xs3 _ _ zu3 zl3 hG3 (hp.slsr 1 rfl hsl3)) rfl ?_
                refine rl_val gw_none (ov_move rfl) rfl ?_
                refine rl_val gw_none (ov_extract rfl rfl) rfl ?_
                refine rl_val gw_none (ov_extract rfl rfl) rfl ?_
                refine rl_val gw_none (ov_assign rfl) rfl ?_
                refine rl_val gw_none (ov_assign rfl) rfl ?_
                refine rl_nil ?_
                refine at_then ?_
                refine ct_seq ?_
                refine ct_seq ?_
                refine ct_reg ?_
                first | refine rl_val gw_none (ov_loadall 0 ag26 rfl rfl rfl) rfl ?_ | refine rl_val gw_none (ov_loadp 0 ag26 rfl rfl (vs := [_, _, _]) rfl rfl) rfl ?_ | refine rl_val gw_none (ov_loada 0 ag26 rfl rfl rfl (by assumption)) rfl ?_
                refine rl_callv gw_none goes59 rfl (fun w1 hp => sNumberOn_c u3 l3 xs3 _ _ zu3 zl3 hG3 (hp.slsr 1 rfl hsl3)) rfl ?_
                refine rl_val gw_none (ov_move rfl) rfl ?_
                refine rl_val gw_none (ov_extract rfl rfl) rfl ?_
                refine rl_val gw_none (ov_extract rfl rfl) rfl ?_
                refine rl_val gw_none (ov_assign rfl) rfl ?_
                refine rl_val gw_none (ov_assign rfl) rfl ?_
                refine rl_nil ?_
                refine at_then ?_
                refine ct_seq ?_
                refine ct_reg ?_
                refine rl_val gw_none (ov_move rfl) rfl ?_
                refine rl_val gw_none (ov_move rfl) rfl ?_
                refine rl_val gw_none (ov_neq rfl rfl) rfl ?_
                refine rl_val gw_none (ov_move rfl) rfl ?_
                refine rl_split (t := 169) rfl (fun g6 => ?_) (fun g6 => ?_)
                ·
                  exfalso; first | (simp at g6; omega) | (simp at g6; done) | (simp_all; done)
                ·
                  refine rl_val (gw_some rfl rfl g6) (ov_move rfl) rfl ?_
                  refine rl_val (gw_some rfl rfl g6) (ov_move rfl) rfl ?_
                  refine rl_val (gw_some rfl rfl g6) (ov_neb Try.underlying4 rfl rfl) rfl ?_
                  refine rl_val gw_none (ov_pick_f rfl g6 rfl) rfl ?_
                  refine rl_nil ?_
                  refine at_then ?_
                  first | refine ct_dec rfl (fun h7 => ?_) (fun h7 => ?_) | refine ct_ndec rfl (fun h7 => ?_) (fun h7 => ?_) | refine ct_eq rfl (fun h7 => ?_) (fun h7 => ?_) | refine ct_ne rfl (fun h7 => ?_) (fun h7 => ?_) | refine ct_not rfl (fun h7 => ?_) (fun h7 => ?_) | refine ct_cond rfl (fun h7 => ?_) (fun h7 => ?_)
                  ·
                    exfalso; first | omega | exact absurd rfl h7 | (simp at h7; done) | (simp_all; done)
                  ·
                    refine ct_skip ?_
                    refine at_then ?_
                    refine ct_seq ?_
                    refine ct_reg ?_
                    first | refine rl_val gw_none (ov_loadall 0 ag26 rfl rfl rfl) rfl ?_ | refine rl_val gw_none (ov_loadp 0 ag26 rfl rfl (vs := [_, _, _]) rfl rfl) rfl ?_ | refine rl_val gw_none (ov_loada 0 ag26 rfl rfl rfl (by assumption)) rfl ?_
                    refine rl_callsl (ι := Nat × List Value) (fun i bo => .tuple #[.agg [.int .i64 (clearedR u3 l3 xs3).u, .int .i64 (clearedR u3 l3 xs3).l, sv bo (clearedR u3 l3 xs3).xs.length i.1].toArray, .bool (clearedR u3 l3 xs3).ok]) (fun i => flat encIntA2 (clearedR u3 l3 xs3).xs ++ i.2) (fun i bo => Sl 2 bo (clearedR u3 l3 xs3).xs.length i.1 (flat encIntA2 (clearedR u3 l3 xs3).xs) i.2) goes60 rfl (fun w1 hp => iCleared_c u3 l3 xs3 _ _ zu3 zl3 hG3 (hp.slsr 1 rfl hsl3)) rfl (fun iC1 boC1 hsC1 => ?_)
                    refine rl_val gw_none (ov_move rfl) rfl ?_
                    refine rl_val gw_none (ov_extract rfl rfl) rfl ?_
                    refine rl_val gw_none (ov_extract rfl rfl) rfl ?_
                    refine rl_alloc ze26 rfl (fun N8 => ?_)
                    refine rl_store [] sz26 rfl rfl rfl rfl rfl (Nat.le_of_ble_eq_true rfl) ?_
                    refine rl_val gw_none (ov_assign rfl) rfl ?_
                    refine rl_nil ?_
                    refine at_then ?_
                    refine ct_seq ?_
                    refine ct_seq ?_
                    refine ct_reg ?_
                    first | refine rl_val gw_none (ov_loadall 2 ag26 rfl rfl rfl) rfl ?_ | refine rl_val gw_none (ov_loadp 2 ag26 rfl rfl (vs := [_, _, _]) rfl rfl) rfl ?_ | refine rl_val gw_none (ov_loada 2 ag26 rfl rfl rfl (by assumption)) rfl ?_
                    refine rl_callsl (ι := Nat × List Value) (fun i bo => .tuple #[.agg [.int .i64 (clearedR u3 l3 xs3).u, .int .i64 (clearedR u3 l3 xs3).l, sv bo (clearedR u3 l3 xs3).xs.length i.1].toArray, .bool (clearedR u3 l3 xs3).ok]) (fun i => flat encIntA2 (clearedR u3 l3 xs3).xs ++ i.2) (fun i bo => Sl 2 bo (clearedR u3 l3 xs3).xs.length i.1 (flat encIntA2 (clearedR u3 l3 xs3).xs) i.2) goes61 rfl (fun w1 hp => sCleared_c u3 l3 xs3 _ _ zu3 zl3 hG3 (hp.slsr 3 rfl hsl3)) rfl (fun iC2 boC2 hsC2 => ?_)
                    have hck := clearedR_numR u3 l3 xs3
                    refine rl_val gw_none (ov_move rfl) rfl ?_
                    refine rl_val gw_none (ov_extract rfl rfl) rfl ?_
                    refine rl_val gw_none (ov_extract rfl rfl) rfl ?_
                    refine rl_alloc ze26 rfl (fun N9 => ?_)
                    refine rl_store [] sz26 rfl rfl rfl rfl rfl (Nat.le_of_ble_eq_true rfl) ?_
                    refine rl_val gw_none (ov_assign rfl) rfl ?_
                    refine rl_nil ?_
                    refine at_then ?_
                    refine ct_seq ?_
                    refine ct_reg ?_
                    refine rl_val gw_none (ov_move rfl) rfl ?_
                    refine rl_val gw_none (ov_move rfl) rfl ?_
                    refine rl_val gw_none (ov_neb Try.underlying4 rfl rfl) rfl ?_
                    refine rl_val gw_none (ov_move rfl) rfl ?_
                    refine rl_split (t := 187) rfl (fun g7 => ?_) (fun g7 => ?_)
                    ·
                      exfalso; first | (simp at g7; omega) | (simp at g7; done) | (simp_all; done)
                    ·
                      refine rl_val (gw_some rfl rfl g7) (ov_move rfl) rfl ?_
                      refine rl_val (gw_some rfl rfl g7) (ov_move rfl) rfl ?_
                      refine rl_val (gw_some rfl rfl g7) (ov_neb Try.underlying4 rfl rfl) rfl ?_
                      refine rl_val gw_none (ov_pick_f rfl g7 rfl) rfl ?_
                      refine rl_val gw_none (ov_move rfl) rfl ?_
                      refine rl_split (t := 192) rfl (fun g8 => ?_) (fun g8 => ?_)
                      ·
                        exfalso; rw [hck] at g8; simp at g8
                      ·
                        skip
                        first | refine rl_val (gw_some rfl rfl g8) (ov_loadall 2 ag26 rfl rfl rfl) rfl ?_ | refine rl_val (gw_some rfl rfl g8) (ov_loadp 2 ag26 rfl rfl (vs := [_, _, _]) rfl rfl) rfl ?_ | refine rl_val (gw_some rfl rfl g8) (ov_loada 2 ag26 rfl rfl rfl (by assumption)) rfl ?_
                        first | refine rl_val (gw_some rfl rfl g8) (ov_loadall 0 ag26 rfl rfl rfl) rfl ?_ | refine rl_val (gw_some rfl rfl g8) (ov_loadp 0 ag26 rfl rfl (vs := [_, _, _]) rfl rfl) rfl ?_ | refine rl_val (gw_some rfl rfl g8) (ov_loada 0 ag26 rfl rfl rfl (by assumption)) rfl ?_
                        refine rl_callv (gw_some rfl rfl g8) goes50 rfl (fun w1 hp => vFrame_c _ _ _ _ _ _ (hp.slsr 3 rfl hsC1) (hp.slsr 1 rfl hsC2)) rfl ?_
                        refine rl_val (gw_some rfl rfl g8) (ov_not rfl) rfl ?_
                        refine rl_val gw_none (ov_pick_f rfl g8 rfl) rfl ?_
                        refine rl_nil ?_
                        refine at_then ?_
                        refine ct_false rfl rfl ?_
                        refine ct_skip ?_
                        refine at_then ?_
                        refine ct_seq ?_
                        refine ct_seq ?_
                        refine ct_reg ?_
                        refine rl_val gw_none (ov_move rfl) rfl ?_
                        refine rl_nil ?_
                        refine at_then ?_
                        first | refine ct_dec rfl (fun h8 => ?_) (fun h8 => ?_) | refine ct_ndec rfl (fun h8 => ?_) (fun h8 => ?_) | refine ct_eq rfl (fun h8 => ?_) (fun h8 => ?_) | refine ct_ne rfl (fun h8 => ?_) (fun h8 => ?_) | refine ct_not rfl (fun h8 => ?_) (fun h8 => ?_) | refine ct_cond rfl (fun h8 => ?_) (fun h8 => ?_)
                        ·
                          obtain ⟨hb6, hn6⟩ := clearedR_facts (by simpa using h8)
                          have hbu6 := frameB_ul hb6
                          have zu6 : In64 (clearedR u3 l3 xs3).u := by unfold In64; omega
                          have zl6 : In64 (clearedR u3 l3 xs3).l := by unfold In64; omega
                          refine ct_seq ?_
                          refine ct_reg ?_
                          first | refine rl_val gw_none (ov_loadall 2 ag26 rfl rfl rfl) rfl ?_ | refine rl_val gw_none (ov_loadp 2 ag26 rfl rfl (vs := [_, _, _]) rfl rfl) rfl ?_ | refine rl_val gw_none (ov_loada 2 ag26 rfl rfl rfl (by assumption)) rfl ?_
                          refine rl_callv gw_none goes51 rfl (fun w1 hp => iNumberOn_y _ _ _ _ _ zu6 zl6 (frameB_G hb6) (hp.slsr 3 rfl hsC1) hb6) rfl ?_
                          refine rl_val gw_none (ov_move rfl) rfl ?_
                          refine rl_val gw_none (ov_extract rfl rfl) rfl ?_
                          refine rl_val gw_none (ov_extract rfl rfl) rfl ?_
                          refine rl_val gw_none (ov_assign rfl) rfl ?_
                          refine rl_val gw_none (ov_assign rfl) rfl ?_
                          refine rl_nil ?_
                          refine at_then ?_
                          refine ct_seq ?_
                          refine ct_reg ?_
                          refine rl_val gw_none (ov_move rfl) rfl ?_
                          refine rl_val gw_none (ov_move rfl) rfl ?_
                          refine rl_split (t := 205) rfl (fun g9 => ?_) (fun g9 => ?_)
                          ·
                            skip
                            refine rl_val (gw_some rfl rfl g9) (ov_move rfl) rfl ?_
                            refine rl_val (gw_some rfl rfl g9) (ov_eql rfl rfl) rfl ?_
                            refine rl_val gw_none (ov_pick_t rfl g9 rfl) rfl ?_
                            refine rl_val gw_none (ov_assign rfl) rfl ?_
                            refine rl_nil ?_
                            refine at_then ?_
                            refine ct_ret ?_
                            refine at_then_ret ?_
                            refine at_ret1 Try.results12 (ro_tmp rfl) (fun w1 hp => ?_)
                            refine ⟨?_, hp.ext0⟩
                            first | rfl | (simp; done) | (rw [hn6]; rfl)
                          ·
                            exfalso; simp at g9
                        ·
                          skip
                          refine ct_skip ?_
                          refine at_then ?_
                          refine ct_seq ?_
                          refine ct_reg ?_
                          refine rl_val gw_none (ov_assign rfl) rfl ?_
                          refine rl_nil ?_
                          refine at_then ?_
                          refine ct_ret ?_
                          refine at_ret1 Try.results12 (ro_tmp rfl) (fun w1 hp => ?_)
                          refine ⟨?_, hp.ext0⟩
                          first | rfl | (simp; done) | (rw [hn6]; rfl)
end Go.Proofs.Ytnnhkpecgchgiaa
