import Derived.Test.YtnnhkpecgchgiaaYf
import Derived.Test.YtnnhkpecgchgiaaYd
import Derived.Test.YtnnhkpecgchgiaaVa
import Derived.KernelRfl
set_option linter.unusedVariables false
set_option linter.unusedSimpArgs false
namespace Go.Proofs.Ytnnhkpecgchgiaa
open Go Go.RowKit K
theorem law_FnCountingDown (cs : List Int) (vcs : Value) (w : World) (hGcs : ∀ x ∈ cs, 0 ≤ x ∧ x ≤ 255) (hscs : SR w 1 vcs cs.length (flat (fun i => [Value.int .u8 i]) cs)) : Calls Try.prog 13 ([vcs]).toArray w (fun e w' => e = .returned (.bool true) ∧ Ext w w') := by
  obtain ⟨a, capc, rfl, _, _⟩ := hscs.slice
  have hlenc := hscs.len_le
  have hcd := CodeOk.ofF hscs hGcs
  refine calls_ct Try.func13 Try.ntmps13 rfl rfl ?_
  refine ct_seq ?_
  refine ct_reg ?_
  refine rl_val gw_none (ov_assign rfl) rfl ?_
  refine rl_nil ?_
  refine at_then ?_
  refine ct_seq ?_
  refine ct_seq ?_
  refine ct_reg ?_
  refine rl_val gw_none (ov_move rfl) rfl ?_
  refine rl_callv gw_none goes46 rfl (fun w1 hp => vBig_c _ _ _ _ hlenc) rfl ?_
  refine rl_nil ?_
  refine at_then ?_
  first | refine ct_dec rfl (fun h1 => ?_) (fun h1 => ?_) | refine ct_ndec rfl (fun h1 => ?_) (fun h1 => ?_) | refine ct_eq rfl (fun h1 => ?_) (fun h1 => ?_) | refine ct_ne rfl (fun h1 => ?_) (fun h1 => ?_) | refine ct_not rfl (fun h1 => ?_) (fun h1 => ?_) | refine ct_cond rfl (fun h1 => ?_) (fun h1 => ?_)
  ·
    skip
    refine ct_seq ?_
    refine ct_reg ?_
    refine rl_val gw_none (ov_assign rfl) rfl ?_
    refine rl_nil ?_
    refine at_then ?_
    refine ct_ret ?_
    refine at_then_ret ?_
    refine at_ret1 Try.results13 (ro_tmp rfl) (fun w1 hp => ?_)
    refine ⟨?_, hp.ext0⟩
    first | rfl | (simp; done) | (rw [hn3, hF5]; rfl) | (rw [hn3]; simp [hF5]; done)
  ·
    refine ct_skip ?_
    refine at_then ?_
    refine ct_seq ?_
    refine ct_reg ?_
    refine rl_val gw_none (ov_move rfl) rfl ?_
    refine rl_calle (ι := (Int × Int × Option Nat × Nat × List Value × List IntA2) × Int) (fun q => .tuple #[.agg [.int .i64 q.1.1, .int .i64 q.1.2.1, sv q.1.2.2.1 q.1.2.2.2.2.2.length q.1.2.2.2.1].toArray, .int .i64 q.2]) (fun q => [(q.1.2.2.1, 81, flat encIntA2 q.1.2.2.2.2.2 ++ q.1.2.2.2.2.1)]) (fun q => ((-10 ≤ q.1.1 ∧ q.1.1 ≤ 10) ∧ (-10 ≤ q.1.2.1 ∧ q.1.2.1 ≤ 10) ∧ Sl 2 q.1.2.2.1 q.1.2.2.2.2.2.length q.1.2.2.2.1 (flat encIntA2 q.1.2.2.2.2.2) q.1.2.2.2.2.1 ∧ (1 ≤ q.1.2.2.2.2.2.length ∧ q.1.2.2.2.2.2.length ≤ 10) ∧ (∀ y ∈ q.1.2.2.2.2.2, GIntA2 y)) ∧ In64 q.2) goes62 rfl (fun w1 hp => DrawCountDown_c _ _ _ _ (hcd.call hp (E := []) (by simp))) rfl (fun qd hqd => ?_)
    obtain ⟨⟨u, l, bo, cap, pad, xs⟩, n⟩ := qd
    obtain ⟨⟨hu, hl, hsl, hxl, hG⟩, zn⟩ := hqd
    dsimp only at hu hl hsl hxl hG zn
    try dsimp only
    have zu : In64 u := by unfold In64; omega
    have zl : In64 l := by unfold In64; omega
    refine rl_val gw_none (ov_move rfl) rfl ?_
    refine rl_val gw_none (ov_extract rfl rfl) rfl ?_
    refine rl_val gw_none (ov_extract rfl rfl) rfl ?_
    refine rl_alloc ze26 rfl (fun N1 => ?_)
    refine rl_store [] sz26 rfl rfl rfl rfl rfl (Nat.le_of_ble_eq_true rfl) ?_
    refine rl_val gw_none (ov_assign rfl) rfl ?_
    refine rl_nil ?_
    refine at_then ?_
    refine ct_seq ?_
    refine ct_reg ?_
    first | refine rl_val gw_none (ov_loadall 0 ag26 rfl rfl rfl) rfl ?_ | refine rl_val gw_none (ov_loadp 0 ag26 rfl rfl (vs := [_, _, _]) rfl rfl) rfl ?_ | refine rl_val gw_none (ov_loada 0 ag26 rfl rfl rfl (by assumption)) rfl ?_
    refine rl_val gw_none (ov_move rfl) rfl ?_
    refine rl_callsl (ι := Nat × List Value) (fun i bo => .tuple #[sv bo (cdR u l xs n).length i.1, .bool (cdB u l xs n)]) (fun i => ints (cdR u l xs n) ++ i.2) (fun i bo => Sl 1 bo (cdR u l xs n).length i.1 (ints (cdR u l xs n)) i.2) goes63 rfl (fun w1 hp => iCountDown_c u l xs n _ _ zu zl hG (hp.slsr 1 rfl hsl) zn) rfl (fun iD1 boD1 hsD1 => ?_)
    refine rl_val gw_none (ov_move rfl) rfl ?_
    refine rl_val gw_none (ov_extract rfl rfl) rfl ?_
    refine rl_val gw_none (ov_extract rfl rfl) rfl ?_
    refine rl_val gw_none (ov_assign rfl) rfl ?_
    refine rl_val gw_none (ov_assign rfl) rfl ?_
    refine rl_nil ?_
    refine at_then ?_
    refine ct_seq ?_
    refine ct_seq ?_
    refine ct_reg ?_
    first | refine rl_val gw_none (ov_loadall 1 ag26 rfl rfl rfl) rfl ?_ | refine rl_val gw_none (ov_loadp 1 ag26 rfl rfl (vs := [_, _, _]) rfl rfl) rfl ?_ | refine rl_val gw_none (ov_loada 1 ag26 rfl rfl rfl (by assumption)) rfl ?_
    refine rl_val gw_none (ov_move rfl) rfl ?_
    refine rl_callsl (ι := Nat × List Value) (fun i bo => .tuple #[sv bo (cdR u l xs n).length i.1, .bool (cdB u l xs n)]) (fun i => ints (cdR u l xs n) ++ i.2) (fun i bo => Sl 1 bo (cdR u l xs n).length i.1 (ints (cdR u l xs n)) i.2) goes64 rfl (fun w1 hp => sCountDown_c u l xs n _ _ zu zl hG (hp.slsr 2 rfl hsl) zn) rfl (fun iD2 boD2 hsD2 => ?_)
    refine rl_val gw_none (ov_move rfl) rfl ?_
    refine rl_val gw_none (ov_extract rfl rfl) rfl ?_
    refine rl_val gw_none (ov_extract rfl rfl) rfl ?_
    refine rl_val gw_none (ov_assign rfl) rfl ?_
    refine rl_val gw_none (ov_assign rfl) rfl ?_
    refine rl_nil ?_
    refine at_then ?_
    refine ct_seq ?_
    refine ct_reg ?_
    refine rl_val gw_none (ov_move rfl) rfl ?_
    refine rl_val gw_none (ov_move rfl) rfl ?_
    refine rl_val gw_none (ov_neb Try.underlying4 rfl rfl) rfl ?_
    refine rl_val gw_none (ov_move rfl) rfl ?_
    refine rl_split (t := 50) rfl (fun g1 => ?_) (fun g1 => ?_)
    ·
      exfalso; first | (simp at g1; omega) | (simp at g1; done) | (simp_all; done)
    ·
      refine rl_val (gw_some rfl rfl g1) (ov_move rfl) rfl ?_
      refine rl_val (gw_some rfl rfl g1) (ov_move rfl) rfl ?_
      refine rl_callv (gw_some rfl rfl g1) goes65 rfl (fun w1 hp => vInts_c _ _ _ _ (hp.slsr 1 rfl hsD1) (hp.slsr 0 rfl hsD2)) rfl ?_
      refine rl_val (gw_some rfl rfl g1) (ov_not rfl) rfl ?_
      refine rl_val gw_none (ov_pick_f rfl g1 rfl) rfl ?_
      refine rl_nil ?_
      refine at_then ?_
      refine ct_false rfl rfl ?_
      refine ct_skip ?_
      refine at_then ?_
      refine ct_cutS (ι := Unit) (fun _ => []) [(0, _)] _ (fun _ => True) (Sub.cons rfl Sub.nil) (fun _ hq => hq) ?_ (fun _ _ => ?_)
      ·
        refine ct_seq ?_
        refine ct_reg ?_
        refine rl_val gw_none (ov_move rfl) rfl ?_
        refine rl_nil ?_
        refine at_then ?_
        first | refine ct_dec rfl (fun h2 => ?_) (fun h2 => ?_) | refine ct_ndec rfl (fun h2 => ?_) (fun h2 => ?_) | refine ct_eq rfl (fun h2 => ?_) (fun h2 => ?_) | refine ct_ne rfl (fun h2 => ?_) (fun h2 => ?_) | refine ct_not rfl (fun h2 => ?_) (fun h2 => ?_) | refine ct_cond rfl (fun h2 => ?_) (fun h2 => ?_)
        ·
          have hCB : cdB u l xs n = true := by simpa using h2
          have hCq := hCB
          unfold cdB at hCq
          simp only [Bool.and_eq_true, decide_eq_true_eq] at hCq
          have hg := hCq.1.1
          have h1n := hCq.1.2
          have h50 := hCq.2
          have hf := goodB_f hg
          have hnm := goodB_num hg
          have hlen : ((cdR u l xs n).length : Int) = numF xs / n := by rw [cdR_yes hCB, cdL_len]; have := Int.ediv_nonneg hnm.1 (show 0 ≤ n by omega); omega
          have hdm := Int.emod_add_mul_ediv (numF xs) n
          have hm0 := Int.emod_nonneg (numF xs) (show n ≠ 0 by omega)
          have hm1 := Int.emod_lt_of_pos (numF xs) (show 0 < n by omega)
          have hq0 : 0 ≤ numF xs / n := Int.ediv_nonneg hnm.1 (by omega)
          have hpr : 0 ≤ n * (numF xs / n) := Int.mul_nonneg (by omega) hq0
          rw [← hlen] at hdm hpr
          refine ct_seq ?_
          refine ct_reg ?_
          first | refine rl_val gw_none (ov_loadall 2 ag26 rfl rfl rfl) rfl ?_ | refine rl_val gw_none (ov_loadp 2 ag26 rfl rfl (vs := [_, _, _]) rfl rfl) rfl ?_ | refine rl_val gw_none (ov_loada 2 ag26 rfl rfl rfl (by assumption)) rfl ?_
          refine rl_callv gw_none goes51 rfl (fun w1 hp => iNumberOn_y u l xs _ _ zu zl hG (hp.slsr 3 rfl hsl) hf) rfl ?_
          refine rl_val gw_none (ov_move rfl) rfl ?_
          refine rl_val gw_none (ov_extract rfl rfl) rfl ?_
          refine rl_val gw_none (ov_extract rfl rfl) rfl ?_
          refine rl_val gw_none (ov_assign rfl) rfl ?_
          refine rl_val gw_none (ov_assign rfl) rfl ?_
          refine rl_nil ?_
          refine at_then ?_
          refine ct_seq ?_
          refine ct_reg ?_
          first | refine rl_val gw_none (ov_loadall 2 ag26 rfl rfl rfl) rfl ?_ | refine rl_val gw_none (ov_loadp 2 ag26 rfl rfl (vs := [_, _, _]) rfl rfl) rfl ?_ | refine rl_val gw_none (ov_loada 2 ag26 rfl rfl rfl (by assumption)) rfl ?_
          refine rl_val gw_none (ov_move rfl) rfl ?_
          refine rl_callv gw_none goes66 rfl (fun w1 hp => how_y u l xs n _ _ zu zl hG (hp.slsr 3 rfl hsl) zn hg h1n (by omega)) rfl ?_
          refine rl_val gw_none (ov_move rfl) rfl ?_
          refine rl_val gw_none (ov_extract rfl rfl) rfl ?_
          refine rl_val gw_none (ov_extract rfl rfl) rfl ?_
          refine rl_val gw_none (ov_assign rfl) rfl ?_
          refine rl_val gw_none (ov_assign rfl) rfl ?_
          refine rl_nil ?_
          refine at_then ?_
          refine ct_seq ?_
          refine ct_seq ?_
          refine ct_reg ?_
          refine rl_val gw_none (ov_move rfl) rfl ?_
          refine rl_val gw_none (ov_not rfl) rfl ?_
          refine rl_val gw_none (ov_move rfl) rfl ?_
          refine rl_split (t := 70) rfl (fun g2 => ?_) (fun g2 => ?_)
          ·
            exfalso; first | (simp at g2; omega) | (simp at g2; done) | (simp_all; done)
          ·
            refine rl_val (gw_some rfl rfl g2) (ov_move rfl) rfl ?_
            refine rl_val (gw_some rfl rfl g2) (ov_not rfl) rfl ?_
            refine rl_val gw_none (ov_pick_f rfl g2 rfl) rfl ?_
            refine rl_val gw_none (ov_move rfl) rfl ?_
            refine rl_split (t := 74) rfl (fun g3 => ?_) (fun g3 => ?_)
            ·
              exfalso; first | (simp at g3; omega) | (simp at g3; done) | (simp_all; done)
            ·
              refine rl_val (gw_some rfl rfl g3) (ov_move rfl) rfl ?_
              refine rl_val (gw_some rfl rfl g3) (ov_move rfl) rfl ?_
              refine rl_val (gw_some rfl rfl g3) (ov_len Try.underlying27 rfl) rfl ?_
              refine rl_val (gw_some rfl rfl g3) (ov_neq rfl rfl) rfl ?_
              refine rl_val gw_none (ov_pick_f rfl g3 rfl) rfl ?_
              refine rl_nil ?_
              refine at_then ?_
              first | refine ct_dec rfl (fun h3 => ?_) (fun h3 => ?_) | refine ct_ndec rfl (fun h3 => ?_) (fun h3 => ?_) | refine ct_eq rfl (fun h3 => ?_) (fun h3 => ?_) | refine ct_ne rfl (fun h3 => ?_) (fun h3 => ?_) | refine ct_not rfl (fun h3 => ?_) (fun h3 => ?_) | refine ct_cond rfl (fun h3 => ?_) (fun h3 => ?_)
              ·
                exfalso; first | omega | exact absurd rfl h3 | (simp at h3; done) | (simp_all; done)
              ·
                refine ct_skip ?_
                refine at_then ?_
                refine ct_seq ?_
                refine ct_seq ?_
                refine ct_reg ?_
                refine rl_val gw_none (ov_assign rfl) rfl ?_
                refine rl_nil ?_
                refine at_then ?_
                refine ct_block ?_
                refine ct_loopR (ι := Nat) (fun k => [(13, .int .i64 k)]) [(0, _), (4, _), (5, _), (9, _)] (fun _ => _) (fun k => k ≤ (cdR u l xs n).length) (fun k => (cdR u l xs n).length - k) (0) (Sub.cons rfl (Sub.cons rfl (Sub.cons rfl (Sub.cons rfl Sub.nil)))) (fun _ hq => hq) (by (repeat' (first | exact Sub.nil | refine Sub.cons ?_ ?_)); all_goals (first | rfl | exact lkInt rfl (by omega))) (by first | exact True.intro | omega | (dsimp only; omega) | (dsimp only at *; omega)) (fun k hk => ?_)
                refine ct_seq ?_
                refine ct_seq ?_
                refine ct_reg ?_
                refine rl_val gw_none (ov_move rfl) rfl ?_
                refine rl_val gw_none (ov_move rfl) rfl ?_
                refine rl_val gw_none (ov_len Try.underlying27 rfl) rfl ?_
                refine rl_val gw_none (ov_lss rfl rfl) rfl ?_
                refine rl_nil ?_
                refine at_then ?_
                first | refine ct_dec rfl (fun h4 => ?_) (fun h4 => ?_) | refine ct_ndec rfl (fun h4 => ?_) (fun h4 => ?_) | refine ct_eq rfl (fun h4 => ?_) (fun h4 => ?_) | refine ct_ne rfl (fun h4 => ?_) (fun h4 => ?_) | refine ct_not rfl (fun h4 => ?_) (fun h4 => ?_) | refine ct_cond rfl (fun h4 => ?_) (fun h4 => ?_)
                ·
                  have hk2 : k < (cdR u l xs n).length := by omega
                  obtain ⟨bc0, rfl⟩ := slSomeG hsD1 (by omega)
                  have hx : (cdR u l xs n)[k]? = some (numF xs - n * ((k : Int) + 1)) := by rw [cdR_yes hCB, cdL]; rw [List.getElem?_map, List.getElem?_range (by omega)]; rfl
                  have hmn : 0 ≤ n * ((k : Int) + 1) ∧ n * ((k : Int) + 1) ≤ n * ((cdR u l xs n).length : Int) := ⟨Int.mul_nonneg (by omega) (by omega), Int.mul_le_mul_of_nonneg_left (by omega) (by omega)⟩
                  refine ct_skip ?_
                  refine at_then ?_
                  refine ct_seq ?_
                  refine ct_block ?_
                  refine ct_seq ?_
                  refine ct_reg ?_
                  refine rl_val gw_none (ov_move rfl) rfl ?_
                  refine rl_val gw_none (ov_move rfl) rfl ?_
                  first | refine rl_val gw_none (ov_ix Try.underlying27 sz3 rfl rfl _ rfl (by omega)) rfl ?_ | refine rl_val gw_none (ov_ix Try.underlying27 sz3 rfl rfl (k) (by omega) (by omega)) rfl ?_
                  refine rl_val gw_none (ov_load 1 sc3 rfl rfl (intsAtP hx _)) rfl ?_
                  refine rl_val gw_none (ov_move rfl) rfl ?_
                  refine rl_val gw_none (ov_move rfl) rfl ?_
                  refine rl_val gw_none (ov_move rfl) rfl ?_
                  refine rl_val gw_none (ov_add rfl rfl (by omega)) rfl ?_
                  refine rl_val gw_none (ov_mul rfl rfl (by omega)) rfl ?_
                  refine rl_val gw_none (ov_sub rfl rfl (by omega)) rfl ?_
                  refine rl_val gw_none (ov_neq rfl rfl) rfl ?_
                  refine rl_nil ?_
                  refine at_then ?_
                  first | refine ct_dec rfl (fun h5 => ?_) (fun h5 => ?_) | refine ct_ndec rfl (fun h5 => ?_) (fun h5 => ?_) | refine ct_eq rfl (fun h5 => ?_) (fun h5 => ?_) | refine ct_ne rfl (fun h5 => ?_) (fun h5 => ?_) | refine ct_not rfl (fun h5 => ?_) (fun h5 => ?_) | refine ct_cond rfl (fun h5 => ?_) (fun h5 => ?_)
                  ·
                    exfalso; first | omega | exact absurd rfl h5 | (simp at h5; done) | (simp_all; done)
                  ·
                    refine ct_skip ?_
                    refine at_block ?_
                    refine at_then ?_
                    refine ct_reg ?_
                    refine rl_val gw_none (ov_move rfl) rfl ?_
                    refine rl_val gw_none (ov_add rfl rfl (by omega)) rfl ?_
                    refine rl_val gw_none (ov_assign rfl) rfl ?_
                    refine rl_nil ?_
                    exact at_backR (k + 1) (by first | exact True.intro | omega | (dsimp only; omega) | (dsimp only at *; omega)) (by first | exact True.intro | omega | (dsimp only; omega) | (dsimp only at *; omega)) (by (repeat' (first | exact Sub.nil | refine Sub.cons ?_ ?_)); all_goals (first | rfl | exact lkInt rfl (by omega))) (Sub.cons rfl (Sub.cons rfl (Sub.cons rfl (Sub.cons rfl Sub.nil)))) (fun _ hq => hq)
                ·
                  have hke : k = (cdR u l xs n).length := by omega
                  subst hke
                  refine ct_exit ?_
                  refine at_then_exit ?_
                  refine at_then_exit ?_
                  refine at_block_hit ?_
                  refine at_then ?_
                  refine ct_seq ?_
                  refine ct_reg ?_
                  refine rl_val gw_none (ov_move rfl) rfl ?_
                  refine rl_val gw_none (ov_move rfl) rfl ?_
                  refine rl_val gw_none (ov_move rfl) rfl ?_
                  refine rl_val gw_none (ov_len Try.underlying27 rfl) rfl ?_
                  refine rl_val gw_none (ov_mul rfl rfl (by omega)) rfl ?_
                  refine rl_val gw_none (ov_sub rfl rfl (by omega)) rfl ?_
                  refine rl_val gw_none (ov_move rfl) rfl ?_
                  refine rl_val gw_none (ov_geq rfl rfl) rfl ?_
                  refine rl_nil ?_
                  refine at_then ?_
                  first | refine ct_dec rfl (fun h6 => ?_) (fun h6 => ?_) | refine ct_ndec rfl (fun h6 => ?_) (fun h6 => ?_) | refine ct_eq rfl (fun h6 => ?_) (fun h6 => ?_) | refine ct_ne rfl (fun h6 => ?_) (fun h6 => ?_) | refine ct_not rfl (fun h6 => ?_) (fun h6 => ?_) | refine ct_cond rfl (fun h6 => ?_) (fun h6 => ?_)
                  ·
                    exfalso; first | omega | exact absurd rfl h6 | (simp at h6; done) | (simp_all; done)
                  ·
                    refine ct_skip ?_
                    exact at_handR () trivial (by (repeat' (first | exact Sub.nil | refine Sub.cons ?_ ?_)); all_goals (first | rfl | exact lkInt rfl (by omega))) (Sub.cons rfl Sub.nil) (fun _ hq => hq)
        ·
          skip
          refine ct_skip ?_
          exact at_handR () trivial (by (repeat' (first | exact Sub.nil | refine Sub.cons ?_ ?_)); all_goals (first | rfl | exact lkInt rfl (by omega))) (Sub.cons rfl Sub.nil) (fun _ hq => hq)
      ·
        refine ct_seq ?_
        refine ct_reg ?_
        refine rl_val gw_none (ov_move rfl) rfl ?_
        refine rl_calle (ι := (Int × Int × Option Nat × Nat × List Value × List IntA2) × Int) (fun q => .tuple #[.agg [.int .i64 q.1.1, .int .i64 q.1.2.1, sv q.1.2.2.1 q.1.2.2.2.2.2.length q.1.2.2.2.1].toArray, .int .i64 q.2]) (fun q => [(q.1.2.2.1, 81, flat encIntA2 q.1.2.2.2.2.2 ++ q.1.2.2.2.2.1)]) (fun q => ((-10 ≤ q.1.1 ∧ q.1.1 ≤ 10) ∧ (-10 ≤ q.1.2.1 ∧ q.1.2.1 ≤ 10) ∧ Sl 2 q.1.2.2.1 q.1.2.2.2.2.2.length q.1.2.2.2.1 (flat encIntA2 q.1.2.2.2.2.2) q.1.2.2.2.2.1 ∧ (1 ≤ q.1.2.2.2.2.2.length ∧ q.1.2.2.2.2.2.length ≤ 10) ∧ (∀ y ∈ q.1.2.2.2.2.2, GIntA2 y)) ∧ In64 q.2) goes67 rfl (fun w1 hp => DrawHowOften_c _ _ _ _ (hcd.call hp (E := []) (by simp))) rfl (fun qd hqd => ?_)
        obtain ⟨⟨u2, l2, bo2, cap2, pad2, xs2⟩, n2⟩ := qd
        obtain ⟨⟨hu2, hl2, hsl2, hxl2, hG2⟩, zn2⟩ := hqd
        dsimp only at hu2 hl2 hsl2 hxl2 hG2 zn2
        try dsimp only
        have zu2 : In64 u2 := by unfold In64; omega
        have zl2 : In64 l2 := by unfold In64; omega
        refine rl_val gw_none (ov_move rfl) rfl ?_
        refine rl_val gw_none (ov_extract rfl rfl) rfl ?_
        refine rl_val gw_none (ov_extract rfl rfl) rfl ?_
        refine rl_alloc ze26 rfl (fun N2 => ?_)
        refine rl_store [] sz26 rfl rfl rfl rfl rfl (Nat.le_of_ble_eq_true rfl) ?_
        refine rl_val gw_none (ov_assign rfl) rfl ?_
        refine rl_nil ?_
        refine at_then ?_
        refine ct_seq ?_
        refine ct_reg ?_
        first | refine rl_val gw_none (ov_loadall 0 ag26 rfl rfl rfl) rfl ?_ | refine rl_val gw_none (ov_loadp 0 ag26 rfl rfl (vs := [_, _, _]) rfl rfl) rfl ?_ | refine rl_val gw_none (ov_loada 0 ag26 rfl rfl rfl (by assumption)) rfl ?_
        refine rl_val gw_none (ov_move rfl) rfl ?_
        refine rl_callv gw_none goes66 rfl (fun w1 hp => iHowOften_c u2 l2 xs2 n2 _ _ zu2 zl2 hG2 (hp.slsr 1 rfl hsl2) zn2) rfl ?_
        refine rl_val gw_none (ov_move rfl) rfl ?_
        refine rl_val gw_none (ov_extract rfl rfl) rfl ?_
        refine rl_val gw_none (ov_extract rfl rfl) rfl ?_
        refine rl_val gw_none (ov_assign rfl) rfl ?_
        refine rl_val gw_none (ov_assign rfl) rfl ?_
        refine rl_nil ?_
        refine at_then ?_
        refine ct_seq ?_
        refine ct_seq ?_
        refine ct_reg ?_
        first | refine rl_val gw_none (ov_loadall 0 ag26 rfl rfl rfl) rfl ?_ | refine rl_val gw_none (ov_loadp 0 ag26 rfl rfl (vs := [_, _, _]) rfl rfl) rfl ?_ | refine rl_val gw_none (ov_loada 0 ag26 rfl rfl rfl (by assumption)) rfl ?_
        refine rl_val gw_none (ov_move rfl) rfl ?_
        refine rl_callv gw_none goes68 rfl (fun w1 hp => sHowOften_c u2 l2 xs2 n2 _ _ zu2 zl2 hG2 (hp.slsr 1 rfl hsl2) zn2) rfl ?_
        refine rl_val gw_none (ov_move rfl) rfl ?_
        refine rl_val gw_none (ov_extract rfl rfl) rfl ?_
        refine rl_val gw_none (ov_extract rfl rfl) rfl ?_
        refine rl_val gw_none (ov_assign rfl) rfl ?_
        refine rl_val gw_none (ov_assign rfl) rfl ?_
        refine rl_nil ?_
        refine at_then ?_
        refine ct_seq ?_
        refine ct_reg ?_
        refine rl_val gw_none (ov_move rfl) rfl ?_
        refine rl_val gw_none (ov_move rfl) rfl ?_
        refine rl_val gw_none (ov_neq rfl rfl) rfl ?_
        refine rl_val gw_none (ov_move rfl) rfl ?_
        refine rl_split (t := 125) rfl (fun g4 => ?_) (fun g4 => ?_)
        ·
          exfalso; first | (simp at g4; omega) | (simp at g4; done) | (simp_all; done)
        ·
          refine rl_val (gw_some rfl rfl g4) (ov_move rfl) rfl ?_
          refine rl_val (gw_some rfl rfl g4) (ov_move rfl) rfl ?_
          refine rl_val (gw_some rfl rfl g4) (ov_neb Try.underlying4 rfl rfl) rfl ?_
          refine rl_val gw_none (ov_pick_f rfl g4 rfl) rfl ?_
          refine rl_nil ?_
          refine at_then ?_
          first | refine ct_dec rfl (fun h7 => ?_) (fun h7 => ?_) | refine ct_ndec rfl (fun h7 => ?_) (fun h7 => ?_) | refine ct_eq rfl (fun h7 => ?_) (fun h7 => ?_) | refine ct_ne rfl (fun h7 => ?_) (fun h7 => ?_) | refine ct_not rfl (fun h7 => ?_) (fun h7 => ?_) | refine ct_cond rfl (fun h7 => ?_) (fun h7 => ?_)
          ·
            exfalso; first | omega | exact absurd rfl h7 | (simp at h7; done) | (simp_all; done)
          ·
            refine ct_skip ?_
            refine at_then ?_
            refine ct_seq ?_
            refine ct_reg ?_
            first | refine rl_val gw_none (ov_loadall 0 ag26 rfl rfl rfl) rfl ?_ | refine rl_val gw_none (ov_loadp 0 ag26 rfl rfl (vs := [_, _, _]) rfl rfl) rfl ?_ | refine rl_val gw_none (ov_loada 0 ag26 rfl rfl rfl (by assumption)) rfl ?_
            refine rl_val gw_none (ov_move rfl) rfl ?_
            refine rl_callsl (ι := Nat × List Value) (fun i bo => .tuple #[.agg [.int .i64 (belowR u2 l2 xs2 n2).u, .int .i64 (belowR u2 l2 xs2 n2).l, sv bo (belowR u2 l2 xs2 n2).xs.length i.1].toArray, .bool (belowR u2 l2 xs2 n2).ok]) (fun i => flat encIntA2 (belowR u2 l2 xs2 n2).xs ++ i.2) (fun i bo => Sl 2 bo (belowR u2 l2 xs2 n2).xs.length i.1 (flat encIntA2 (belowR u2 l2 xs2 n2).xs) i.2) goes69 rfl (fun w1 hp => iNearestBelow_c u2 l2 xs2 n2 _ _ zu2 zl2 hG2 (hp.slsr 1 rfl hsl2) zn2) rfl (fun iN1 boN1 hsN1 => ?_)
            refine rl_val gw_none (ov_move rfl) rfl ?_
            refine rl_val gw_none (ov_extract rfl rfl) rfl ?_
            refine rl_val gw_none (ov_extract rfl rfl) rfl ?_
            refine rl_alloc ze26 rfl (fun N3 => ?_)
            refine rl_store [] sz26 rfl rfl rfl rfl rfl (Nat.le_of_ble_eq_true rfl) ?_
            refine rl_val gw_none (ov_assign rfl) rfl ?_
            refine rl_nil ?_
            refine at_then ?_
            refine ct_seq ?_
            refine ct_seq ?_
            refine ct_reg ?_
            first | refine rl_val gw_none (ov_loadall 2 ag26 rfl rfl rfl) rfl ?_ | refine rl_val gw_none (ov_loadp 2 ag26 rfl rfl (vs := [_, _, _]) rfl rfl) rfl ?_ | refine rl_val gw_none (ov_loada 2 ag26 rfl rfl rfl (by assumption)) rfl ?_
            refine rl_val gw_none (ov_move rfl) rfl ?_
            refine rl_callsl (ι := Nat × List Value) (fun i bo => .tuple #[.agg [.int .i64 (belowR u2 l2 xs2 n2).u, .int .i64 (belowR u2 l2 xs2 n2).l, sv bo (belowR u2 l2 xs2 n2).xs.length i.1].toArray, .bool (belowR u2 l2 xs2 n2).ok]) (fun i => flat encIntA2 (belowR u2 l2 xs2 n2).xs ++ i.2) (fun i bo => Sl 2 bo (belowR u2 l2 xs2 n2).xs.length i.1 (flat encIntA2 (belowR u2 l2 xs2 n2).xs) i.2) goes70 rfl (fun w1 hp => sNearestBelow_c u2 l2 xs2 n2 _ _ zu2 zl2 hG2 (hp.slsr 3 rfl hsl2) zn2) rfl (fun iN2 boN2 hsN2 => ?_)
            refine rl_val gw_none (ov_move rfl) rfl ?_
            refine rl_val gw_none (ov_extract rfl rfl) rfl ?_
            refine rl_val gw_none (ov_extract rfl rfl) rfl ?_
            refine rl_alloc ze26 rfl (fun N4 => ?_)
            refine rl_store [] sz26 rfl rfl rfl rfl rfl (Nat.le_of_ble_eq_true rfl) ?_
            refine rl_val gw_none (ov_assign rfl) rfl ?_
            refine rl_nil ?_
            refine at_then ?_
            refine ct_seq ?_
            refine ct_reg ?_
            refine rl_val gw_none (ov_move rfl) rfl ?_
            refine rl_val gw_none (ov_move rfl) rfl ?_
            refine rl_val gw_none (ov_neb Try.underlying4 rfl rfl) rfl ?_
            refine rl_val gw_none (ov_move rfl) rfl ?_
            refine rl_split (t := 145) rfl (fun g5 => ?_) (fun g5 => ?_)
            ·
              exfalso; first | (simp at g5; omega) | (simp at g5; done) | (simp_all; done)
            ·
              first | refine rl_val (gw_some rfl rfl g5) (ov_loadall 2 ag26 rfl rfl rfl) rfl ?_ | refine rl_val (gw_some rfl rfl g5) (ov_loadp 2 ag26 rfl rfl (vs := [_, _, _]) rfl rfl) rfl ?_ | refine rl_val (gw_some rfl rfl g5) (ov_loada 2 ag26 rfl rfl rfl (by assumption)) rfl ?_
              first | refine rl_val (gw_some rfl rfl g5) (ov_loadall 0 ag26 rfl rfl rfl) rfl ?_ | refine rl_val (gw_some rfl rfl g5) (ov_loadp 0 ag26 rfl rfl (vs := [_, _, _]) rfl rfl) rfl ?_ | refine rl_val (gw_some rfl rfl g5) (ov_loada 0 ag26 rfl rfl rfl (by assumption)) rfl ?_
              refine rl_callv (gw_some rfl rfl g5) goes50 rfl (fun w1 hp => vFrame_c _ _ _ _ _ _ (hp.slsr 3 rfl hsN1) (hp.slsr 1 rfl hsN2)) rfl ?_
              refine rl_val (gw_some rfl rfl g5) (ov_not rfl) rfl ?_
              refine rl_val gw_none (ov_pick_f rfl g5 rfl) rfl ?_
              refine rl_nil ?_
              refine at_then ?_
              refine ct_false rfl rfl ?_
              refine ct_skip ?_
              refine at_then ?_
              refine ct_seq ?_
              refine ct_seq ?_
              refine ct_reg ?_
              refine rl_val gw_none (ov_move rfl) rfl ?_
              refine rl_nil ?_
              refine at_then ?_
              first | refine ct_dec rfl (fun h8 => ?_) (fun h8 => ?_) | refine ct_ndec rfl (fun h8 => ?_) (fun h8 => ?_) | refine ct_eq rfl (fun h8 => ?_) (fun h8 => ?_) | refine ct_ne rfl (fun h8 => ?_) (fun h8 => ?_) | refine ct_not rfl (fun h8 => ?_) (fun h8 => ?_) | refine ct_cond rfl (fun h8 => ?_) (fun h8 => ?_)
              ·
                have hok : (goodB u2 l2 xs2 && decide (1 ≤ n2)) = true := by
                  rcases Bool.eq_false_or_eq_true (goodB u2 l2 xs2 && decide (1 ≤ n2)) with hh | hh
                  · exact hh
                  · exfalso; simp [belowR, okR_no hh] at h8
                have he : belowR u2 l2 xs2 n2 = ⟨u2, l2, showL (numF xs2 / n2 * n2) xs2.length, true⟩ := okR_yes hok
                simp only [Bool.and_eq_true, decide_eq_true_eq] at hok
                have hf2 := goodB_f hok.1
                obtain ⟨hF1, hF2, hF3, hF4, hF5⟩ := below_facts hok.1 hok.2
                have zu3 : In64 (belowR u2 l2 xs2 n2).u := by rw [he]; exact zu2
                have zl3 : In64 (belowR u2 l2 xs2 n2).l := by rw [he]; exact zl2
                have hf3 : frameB (belowR u2 l2 xs2 n2).u (belowR u2 l2 xs2 n2).l (belowR u2 l2 xs2 n2).xs = true := by rw [he]; exact hF2
                have hG3 := frameB_G hf3
                have hn3 : numF (belowR u2 l2 xs2 n2).xs = numF xs2 / n2 * n2 := by rw [he]; exact hF1
                have hn1 := hok.2
                have hnb2 := numF_all hf2
                have hnb3 := numF_all hf3
                refine ct_seq ?_
                refine ct_reg ?_
                first | refine rl_val gw_none (ov_loadall 4 ag26 rfl rfl rfl) rfl ?_ | refine rl_val gw_none (ov_loadp 4 ag26 rfl rfl (vs := [_, _, _]) rfl rfl) rfl ?_ | refine rl_val gw_none (ov_loada 4 ag26 rfl rfl rfl (by assumption)) rfl ?_
                refine rl_callv gw_none goes51 rfl (fun w1 hp => iNumberOn_y u2 l2 xs2 _ _ zu2 zl2 hG2 (hp.slsr 5 rfl hsl2) hf2) rfl ?_
                refine rl_val gw_none (ov_move rfl) rfl ?_
                refine rl_val gw_none (ov_extract rfl rfl) rfl ?_
                refine rl_val gw_none (ov_extract rfl rfl) rfl ?_
                refine rl_val gw_none (ov_assign rfl) rfl ?_
                refine rl_val gw_none (ov_assign rfl) rfl ?_
                refine rl_nil ?_
                refine at_then ?_
                refine ct_seq ?_
                refine ct_reg ?_
                first | refine rl_val gw_none (ov_loadall 2 ag26 rfl rfl rfl) rfl ?_ | refine rl_val gw_none (ov_loadp 2 ag26 rfl rfl (vs := [_, _, _]) rfl rfl) rfl ?_ | refine rl_val gw_none (ov_loada 2 ag26 rfl rfl rfl (by assumption)) rfl ?_
                refine rl_callv gw_none goes51 rfl (fun w1 hp => iNumberOn_y _ _ _ _ _ zu3 zl3 hG3 (hp.slsr 3 rfl hsN1) hf3) rfl ?_
                refine rl_val gw_none (ov_move rfl) rfl ?_
                refine rl_val gw_none (ov_extract rfl rfl) rfl ?_
                refine rl_val gw_none (ov_extract rfl rfl) rfl ?_
                refine rl_val gw_none (ov_assign rfl) rfl ?_
                refine rl_val gw_none (ov_assign rfl) rfl ?_
                refine rl_nil ?_
                refine at_then ?_
                refine ct_seq ?_
                refine ct_reg ?_
                refine rl_val gw_none (ov_move rfl) rfl ?_
                refine rl_val gw_none (ov_move rfl) rfl ?_
                refine rl_split (t := 163) rfl (fun g6 => ?_) (fun g6 => ?_)
                ·
                  skip
                  refine rl_val (gw_some rfl rfl g6) (ov_move rfl) rfl ?_
                  refine rl_val gw_none (ov_pick_t rfl g6 rfl) rfl ?_
                  refine rl_val gw_none (ov_move rfl) rfl ?_
                  refine rl_split (t := 166) rfl (fun g7 => ?_) (fun g7 => ?_)
                  ·
                    skip
                    refine rl_val (gw_some rfl rfl g7) (ov_move rfl) rfl ?_
                    refine rl_val (gw_some rfl rfl g7) (ov_move rfl) rfl ?_
                    refine rl_val (gw_some rfl rfl g7) (ov_leq rfl rfl) rfl ?_
                    refine rl_val gw_none (ov_pick_t rfl g7 rfl) rfl ?_
                    refine rl_val gw_none (ov_move rfl) rfl ?_
                    refine rl_split (t := 171) rfl (fun g8 => ?_) (fun g8 => ?_)
                    ·
                      skip
                      refine rl_val (gw_some rfl rfl g8) (ov_move rfl) rfl ?_
                      refine rl_val (gw_some rfl rfl g8) (ov_move rfl) rfl ?_
                      refine rl_val (gw_some rfl rfl g8) (ov_sub rfl rfl (by omega)) rfl ?_
                      refine rl_val (gw_some rfl rfl g8) (ov_move rfl) rfl ?_
                      refine rl_val (gw_some rfl rfl g8) (ov_lss rfl rfl) rfl ?_
                      refine rl_val gw_none (ov_pick_t rfl g8 rfl) rfl ?_
                      refine rl_val gw_none (ov_move rfl) rfl ?_
                      refine rl_split (t := 178) rfl (fun g9 => ?_) (fun g9 => ?_)
                      ·
                        skip
                        refine rl_val (gw_some rfl rfl g9) (ov_move rfl) rfl ?_
                        refine rl_val (gw_some rfl rfl g9) (ov_move rfl) rfl ?_
                        refine rl_val (gw_some rfl rfl g9) (ov_rem rfl rfl (by omega) (by omega)) rfl ?_
                        refine rl_val (gw_some rfl rfl g9) (ov_eql rfl rfl) rfl ?_
                        refine rl_val gw_none (ov_pick_t rfl g9 rfl) rfl ?_
                        refine rl_val gw_none (ov_assign rfl) rfl ?_
                        refine rl_nil ?_
                        refine at_then ?_
                        refine ct_ret ?_
                        refine at_then_ret ?_
                        refine at_ret1 Try.results13 (ro_tmp rfl) (fun w1 hp => ?_)
                        refine ⟨?_, hp.ext0⟩
                        first | rfl | (simp; done) | (rw [hn3, hF5]; rfl) | (rw [hn3]; simp [hF5]; done)
                      ·
                        exfalso; rw [hn3] at g9; simp at g9; omega
                    ·
                      exfalso; rw [hn3] at g8; simp at g8; omega
                  ·
                    exfalso; simp at g7
                ·
                  exfalso; simp at g6
              ·
                skip
                refine ct_skip ?_
                refine at_then ?_
                refine ct_seq ?_
                refine ct_reg ?_
                refine rl_val gw_none (ov_assign rfl) rfl ?_
                refine rl_nil ?_
                refine at_then ?_
                refine ct_ret ?_
                refine at_ret1 Try.results13 (ro_tmp rfl) (fun w1 hp => ?_)
                refine ⟨?_, hp.ext0⟩
                first | rfl | (simp; done) | (rw [hn3, hF5]; rfl) | (rw [hn3]; simp [hF5]; done)
end Go.Proofs.Ytnnhkpecgchgiaa
