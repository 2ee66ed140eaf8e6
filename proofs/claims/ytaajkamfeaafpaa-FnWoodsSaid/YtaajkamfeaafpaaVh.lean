import Derived.Test.YtaajkamfeaafpaaVg
import Derived.Test.YtaajkamfeaafpaaTn
import Derived.Test.YtaajkamfeaafpaaTo
import Derived.Test.YtaajkamfeaafpaaTq
import Derived.Test.YtaajkamfeaafpaaTm
import Derived.Test.YtaajkamfeaafpaaUj
import Derived.KernelRfl
set_option linter.unusedVariables false
set_option linter.unusedSimpArgs false
namespace Go.Proofs.Ytaajkamfeaafpaa
open Go Go.RowKit K
theorem beads_fin {ws : List Wood} {xs : List Repair} {k : Nat} (hk0 : repairsB ws xs = false → k = 0) (h : k = xs.length ∨ repairsB ws xs = false) : allB xs k = (beadsRes ws xs).sum := by
  rcases Bool.eq_false_or_eq_true (repairsB ws xs) with hb | hb
  · rcases h with h | h
    · rw [h]; exact (beads_all hb).1.symm
    · rw [hb] at h; cases h
  · rw [hk0 hb, beadsRes_no hb]; rfl

theorem law_FnWoods (cs : List Int) (vcs : Value) (w : World) (hGcs : ∀ x ∈ cs, 0 ≤ x ∧ x ≤ 255) (hscs : SR w 1 vcs cs.length (flat (fun i => [Value.int .u8 i]) cs)) : Calls Try.prog 14 ([vcs]).toArray w (fun e w' => e = .returned (.bool true) ∧ Ext w w') := by
  obtain ⟨a, capc, rfl, _, _⟩ := hscs.slice
  have hlenc := hscs.len_le
  have hcd := CodeOk.ofF hscs hGcs
  refine calls_ct Try.func14 Try.ntmps14 rfl rfl ?_
  refine ct_seq ?_
  refine ct_reg ?_
  refine rl_val gw_none (ov_assign rfl) rfl ?_
  refine rl_nil ?_
  refine at_then ?_
  refine ct_seq ?_
  refine ct_seq ?_
  refine ct_reg ?_
  refine rl_val gw_none (ov_move rfl) rfl ?_
  refine rl_callv gw_none goes32 rfl (fun w1 hp => rBig_c _ _ _ _ hlenc) rfl ?_
  refine rl_nil ?_
  refine at_then ?_
  first | refine ct_dec rfl (fun h1 => ?_) (fun h1 => ?_) | refine ct_ndec rfl (fun h1 => ?_) (fun h1 => ?_) | refine ct_eq rfl (fun h1 => ?_) (fun h1 => ?_) | refine ct_ne rfl (fun h1 => ?_) (fun h1 => ?_) | refine ct_not rfl (fun h1 => ?_) (fun h1 => ?_) | refine ct_cond rfl (fun h1 => ?_) (fun h1 => ?_)
  ·
    skip
    refine ct_seq ?_
    refine ct_reg ?_
    refine rl_val gw_none (ov_assign rfl) rfl ?_
    refine rl_nil ?_
    refine at_then ?_
    refine ct_ret ?_
    refine at_then_ret ?_
    refine at_ret1 Try.results14 (ro_tmp rfl) (fun w1 hp => ?_)
    refine ⟨?_, hp.ext0⟩
    first | rfl | (simp; done)
  ·
    refine ct_skip ?_
    refine at_then ?_
    refine ct_seq ?_
    refine ct_reg ?_
    refine rl_val gw_none (ov_move rfl) rfl ?_
    refine rl_calle (ι := (Option Nat × Nat × List Value × List Wood) × (Option Nat × Nat × List Value × List Repair) × Int × Int) (fun q => .tuple #[sv q.1.1 q.1.2.2.2.length q.1.2.1, sv q.2.1.1 q.2.1.2.2.2.length q.2.1.2.1, .int .i64 q.2.2.1, .int .i64 q.2.2.2]) (fun q => [(q.1.1, 67, flat encWood q.1.2.2.2 ++ q.1.2.2.1), (q.2.1.1, 53, flat encRepair q.2.1.2.2.2 ++ q.2.1.2.2.1)]) (fun q => (Sl 3 q.1.1 q.1.2.2.2.length q.1.2.1 (flat encWood q.1.2.2.2) q.1.2.2.1 ∧ q.1.2.2.2.length ≤ 10 ∧ (∀ y ∈ q.1.2.2.2, GWood y)) ∧ (Sl 5 q.2.1.1 q.2.1.2.2.2.length q.2.1.2.1 (flat encRepair q.2.1.2.2.2) q.2.1.2.2.1 ∧ q.2.1.2.2.2.length ≤ 12 ∧ (∀ y ∈ q.2.1.2.2.2, GRepair y)) ∧ In64 q.2.2.1 ∧ In64 q.2.2.2) goes52 rfl (fun w1 hp => DrawReplaceWood_c _ _ _ _ (hcd.call hp (E := []) (by simp))) rfl (fun qd hqd => ?_)
    obtain ⟨qw, qr, fa, tb⟩ := qd
    obtain ⟨hqw, hqr, zfa, ztb⟩ := hqd
    obtain ⟨bw, cw, pw, ws⟩ := qw
    obtain ⟨hslw, hw10, hGw⟩ := hqw
    obtain ⟨br, cr, pr, xs⟩ := qr
    obtain ⟨hslr, hr12, hGr⟩ := hqr
    dsimp only at hslw hw10 hGw hslr hr12 hGr zfa ztb
    try dsimp only
    refine rl_val gw_none (ov_move rfl) rfl ?_
    refine rl_val gw_none (ov_extract rfl rfl) rfl ?_
    refine rl_val gw_none (ov_extract rfl rfl) rfl ?_
    refine rl_val gw_none (ov_extract rfl rfl) rfl ?_
    refine rl_val gw_none (ov_extract rfl rfl) rfl ?_
    refine rl_val gw_none (ov_assign rfl) rfl ?_
    refine rl_val gw_none (ov_assign rfl) rfl ?_
    refine rl_val gw_none (ov_assign rfl) rfl ?_
    refine rl_val gw_none (ov_assign rfl) rfl ?_
    refine rl_nil ?_
    refine at_then ?_
    refine ct_seq ?_
    refine ct_reg ?_
    refine rl_val gw_none (ov_move rfl) rfl ?_
    refine rl_val gw_none (ov_move rfl) rfl ?_
    refine rl_val gw_none (ov_move rfl) rfl ?_
    refine rl_val gw_none (ov_move rfl) rfl ?_
    refine rl_callsl (ι := Nat × List Value) (fun i bo => .tuple #[sv bo (rwL ws xs fa tb).length i.1, .int .i64 (rwS ws xs fa tb), .bool (rwB ws xs fa tb)]) (fun i => flat encRepair (rwL ws xs fa tb) ++ i.2) (fun i bo => Sl 5 bo (rwL ws xs fa tb).length i.1 (flat encRepair (rwL ws xs fa tb)) i.2) goes50 rfl (fun w1 hp => iReplaceWood_c ws xs fa tb _ _ _ hGw (hp.slsr 0 rfl hslw) hGr (hp.slsr 1 rfl hslr) zfa ztb) rfl (fun iP1 boP1 hsP1 => ?_)
    refine rl_val gw_none (ov_move rfl) rfl ?_
    refine rl_val gw_none (ov_extract rfl rfl) rfl ?_
    refine rl_val gw_none (ov_extract rfl rfl) rfl ?_
    refine rl_val gw_none (ov_extract rfl rfl) rfl ?_
    refine rl_val gw_none (ov_assign rfl) rfl ?_
    refine rl_val gw_none (ov_assign rfl) rfl ?_
    refine rl_val gw_none (ov_assign rfl) rfl ?_
    refine rl_nil ?_
    refine at_then ?_
    refine ct_seq ?_
    refine ct_seq ?_
    refine ct_reg ?_
    refine rl_val gw_none (ov_move rfl) rfl ?_
    refine rl_val gw_none (ov_move rfl) rfl ?_
    refine rl_val gw_none (ov_move rfl) rfl ?_
    refine rl_val gw_none (ov_move rfl) rfl ?_
    refine rl_callsl (ι := Nat × List Value) (fun i bo => .tuple #[sv bo (rwL ws xs fa tb).length i.1, .int .i64 (rwS ws xs fa tb), .bool (rwB ws xs fa tb)]) (fun i => flat encRepair (rwL ws xs fa tb) ++ i.2) (fun i bo => Sl 5 bo (rwL ws xs fa tb).length i.1 (flat encRepair (rwL ws xs fa tb)) i.2) goes49 rfl (fun w1 hp => sReplaceWood_c ws xs fa tb _ _ _ hGw (hp.slsr 1 rfl hslw) hGr (hp.slsr 2 rfl hslr) zfa ztb) rfl (fun iP2 boP2 hsP2 => ?_)
    refine rl_val gw_none (ov_move rfl) rfl ?_
    refine rl_val gw_none (ov_extract rfl rfl) rfl ?_
    refine rl_val gw_none (ov_extract rfl rfl) rfl ?_
    refine rl_val gw_none (ov_extract rfl rfl) rfl ?_
    refine rl_val gw_none (ov_assign rfl) rfl ?_
    refine rl_val gw_none (ov_assign rfl) rfl ?_
    refine rl_val gw_none (ov_assign rfl) rfl ?_
    refine rl_nil ?_
    refine at_then ?_
    refine ct_seq ?_
    refine ct_reg ?_
    refine rl_val gw_none (ov_move rfl) rfl ?_
    refine rl_val gw_none (ov_move rfl) rfl ?_
    refine rl_val gw_none (ov_neb Try.underlying4 rfl rfl) rfl ?_
    refine rl_val gw_none (ov_move rfl) rfl ?_
    refine rl_split (t := 71) rfl (fun g1 => ?_) (fun g1 => ?_)
    ·
      exfalso; first | (simp at g1; omega) | (simp at g1; done) | (simp_all; done)
    ·
      refine rl_val (gw_some rfl rfl g1) (ov_move rfl) rfl ?_
      refine rl_val (gw_some rfl rfl g1) (ov_move rfl) rfl ?_
      refine rl_val (gw_some rfl rfl g1) (ov_neq rfl rfl) rfl ?_
      refine rl_val gw_none (ov_pick_f rfl g1 rfl) rfl ?_
      refine rl_val gw_none (ov_move rfl) rfl ?_
      refine rl_split (t := 76) rfl (fun g2 => ?_) (fun g2 => ?_)
      ·
        exfalso; first | (simp at g2; omega) | (simp at g2; done) | (simp_all; done)
      ·
        refine rl_val (gw_some rfl rfl g2) (ov_move rfl) rfl ?_
        refine rl_val (gw_some rfl rfl g2) (ov_move rfl) rfl ?_
        refine rl_callv (gw_some rfl rfl g2) goes53 rfl (fun w1 hp => rRepairs_c _ _ _ _ (hp.slsr 1 rfl hsP1) (hp.slsr 0 rfl hsP2)) rfl ?_
        refine rl_val (gw_some rfl rfl g2) (ov_not rfl) rfl ?_
        refine rl_val gw_none (ov_pick_f rfl g2 rfl) rfl ?_
        refine rl_nil ?_
        refine at_then ?_
        refine ct_false rfl rfl ?_
        refine ct_skip ?_
        refine at_then ?_
        refine ct_cutS (ι := Unit) (fun _ => []) [(0, _)] _ (fun _ => True) (Sub.cons rfl Sub.nil) (fun _ hq => hq) ?_ (fun _ _ => ?_)
        ·
          refine ct_seq ?_
          refine ct_reg ?_
          refine rl_val gw_none (ov_move rfl) rfl ?_
          refine rl_nil ?_
          refine at_then ?_
          first | refine ct_dec rfl (fun h2 => ?_) (fun h2 => ?_) | refine ct_ndec rfl (fun h2 => ?_) (fun h2 => ?_) | refine ct_eq rfl (fun h2 => ?_) (fun h2 => ?_) | refine ct_ne rfl (fun h2 => ?_) (fun h2 => ?_) | refine ct_not rfl (fun h2 => ?_) (fun h2 => ?_) | refine ct_cond rfl (fun h2 => ?_) (fun h2 => ?_)
          ·
            have hB : rwB ws xs fa tb = true := by simpa using h2
            have hok := (rw_good hB).1
            have hx10 := (repairs_woods hok).2
            have hGo : ∀ y ∈ rwL ws xs fa tb, GRepair y := by rw [(rw_yes hB).1]; exact gRep_ok (rw_good hB).2 (by omega)
            have htb : inB tb 0 ((ws.length : Int) - 1) = true := by unfold rwB at hB; simp only [Bool.and_eq_true] at hB; exact hB.2
            have hrs := (rw_yes hB).2
            refine ct_seq ?_
            refine ct_reg ?_
            refine rl_val gw_none (ov_assign rfl) rfl ?_
            refine rl_nil ?_
            refine at_then ?_
            refine ct_seq ?_
            refine ct_seq ?_
            refine ct_reg ?_
            refine rl_val gw_none (ov_assign rfl) rfl ?_
            refine rl_nil ?_
            refine at_then ?_
            refine ct_block ?_
            refine ct_loopR (ι := Nat) (fun k => [(13, .int .i64 (savL ws fa tb xs k)), (14, .int .i64 k)]) [(0, _), (3, _), (4, _), (7, _), (8, _)] (fun _ => _) (fun k => k ≤ xs.length) (fun k => xs.length - k) (0) (Sub.cons rfl (Sub.cons rfl (Sub.cons rfl (Sub.cons rfl (Sub.cons rfl Sub.nil))))) (fun _ hq => hq) (by (repeat' (first | exact Sub.nil | refine Sub.cons ?_ ?_)); all_goals (first | rfl | exact lkInt rfl (by omega))) (by first | exact True.intro | omega | (dsimp only; omega) | (dsimp only at *; omega)) (fun k hk => ?_)
            refine ct_seq ?_
            refine ct_seq ?_
            refine ct_reg ?_
            refine rl_val gw_none (ov_move rfl) rfl ?_
            refine rl_val gw_none (ov_move rfl) rfl ?_
            refine rl_val gw_none (ov_len Try.underlying37 rfl) rfl ?_
            refine rl_val gw_none (ov_lss rfl rfl) rfl ?_
            refine rl_nil ?_
            refine at_then ?_
            first | refine ct_dec rfl (fun h3 => ?_) (fun h3 => ?_) | refine ct_ndec rfl (fun h3 => ?_) (fun h3 => ?_) | refine ct_eq rfl (fun h3 => ?_) (fun h3 => ?_) | refine ct_ne rfl (fun h3 => ?_) (fun h3 => ?_) | refine ct_not rfl (fun h3 => ?_) (fun h3 => ?_) | refine ct_cond rfl (fun h3 => ?_) (fun h3 => ?_)
            ·
              have hk2 : k < xs.length := by omega
              obtain ⟨b1, rfl⟩ := slSomeG hslr (by omega)
              have hx := getLt hk2
              have hzr : In64 (xs[k]).frame := (hGr _ (List.getElem_mem hk2)).1
              generalize xs[k] = r at *
              have hrb := repairB_at hok hx
              have hcr := costR_bd (repairs_woods hok).1 hrb
              have hcq := costR_bd (repairs_woods hok).1 (repW_good (a := fa) hrb htb)
              have hsv := savL_bd (a := fa) hok htb k
              have hss := savL_succ (ws := ws) (a := fa) (b := tb) hx
              refine ct_skip ?_
              refine at_then ?_
              refine ct_seq ?_
              refine ct_block ?_
              refine ct_seq ?_
              refine ct_reg ?_
              refine rl_val gw_none (ov_move rfl) rfl ?_
              refine rl_val gw_none (ov_move rfl) rfl ?_
              refine rl_val gw_none (ov_move rfl) rfl ?_
              refine rl_val gw_none (ov_move rfl) rfl ?_
              first | refine rl_val gw_none (ov_ix Try.underlying37 sz53 rfl rfl _ rfl (by omega)) rfl ?_ | refine rl_val gw_none (ov_ix Try.underlying37 sz53 rfl rfl (k) (by omega) (by omega)) rfl ?_ | refine rl_val gw_none (ov_ix Try.underlying37 sz53 rfl rfl (b) (by omega) (by omega)) rfl ?_
              refine rl_val gw_none (ov_field fo53_0 rfl) rfl ?_
              refine rl_val gw_none (ov_load 3 sc3 rfl rfl (flatGetG encRepair_len (f := 0) hx rfl _)) rfl ?_
              refine rl_callv gw_none goes46 rfl (fun w1 hp => cost_y ws xs r k _ _ _ hGw (hp.slsr 2 rfl hslw) hGr (hp.slsr 3 rfl hslr) hok hx hzr) rfl ?_
              refine rl_val gw_none (ov_move rfl) rfl ?_
              refine rl_val gw_none (ov_extract rfl rfl) rfl ?_
              refine rl_val gw_none (ov_extract rfl rfl) rfl ?_
              refine rl_val gw_none (ov_assign rfl) rfl ?_
              refine rl_val gw_none (ov_assign rfl) rfl ?_
              refine rl_nil ?_
              refine at_then ?_
              refine ct_seq ?_
              refine ct_reg ?_
              refine rl_val gw_none (ov_move rfl) rfl ?_
              refine rl_val gw_none (ov_move rfl) rfl ?_
              refine rl_val gw_none (ov_move rfl) rfl ?_
              refine rl_val gw_none (ov_move rfl) rfl ?_
              first | refine rl_val gw_none (ov_ix Try.underlying37 sz53 rfl rfl _ rfl (by omega)) rfl ?_ | refine rl_val gw_none (ov_ix Try.underlying37 sz53 rfl rfl (k) (by omega) (by omega)) rfl ?_ | refine rl_val gw_none (ov_ix Try.underlying37 sz53 rfl rfl (b) (by omega) (by omega)) rfl ?_
              refine rl_val gw_none (ov_field fo53_0 rfl) rfl ?_
              refine rl_val gw_none (ov_load 3 sc3 rfl rfl (flatGetG encRepair_len (f := 0) hx rfl _)) rfl ?_
              refine rl_callv gw_none goes46 rfl (fun w1 hp => cost_z ws xs r k fa tb _ _ _ hGw (hp.slsr 2 rfl hslw) hGo (hp.slsr 1 rfl hsP1) hB hx hzr) rfl ?_
              refine rl_val gw_none (ov_move rfl) rfl ?_
              refine rl_val gw_none (ov_extract rfl rfl) rfl ?_
              refine rl_val gw_none (ov_extract rfl rfl) rfl ?_
              refine rl_val gw_none (ov_assign rfl) rfl ?_
              refine rl_val gw_none (ov_assign rfl) rfl ?_
              refine rl_nil ?_
              refine at_then ?_
              refine ct_seq ?_
              refine ct_seq ?_
              refine ct_reg ?_
              refine rl_val gw_none (ov_move rfl) rfl ?_
              refine rl_val gw_none (ov_not rfl) rfl ?_
              refine rl_val gw_none (ov_move rfl) rfl ?_
              refine rl_split (t := 113) rfl (fun g3 => ?_) (fun g3 => ?_)
              ·
                exfalso; first | (simp at g3; omega) | (simp at g3; done) | (simp_all; done)
              ·
                refine rl_val (gw_some rfl rfl g3) (ov_move rfl) rfl ?_
                refine rl_val (gw_some rfl rfl g3) (ov_not rfl) rfl ?_
                refine rl_val gw_none (ov_pick_f rfl g3 rfl) rfl ?_
                refine rl_nil ?_
                refine at_then ?_
                first | refine ct_dec rfl (fun h4 => ?_) (fun h4 => ?_) | refine ct_ndec rfl (fun h4 => ?_) (fun h4 => ?_) | refine ct_eq rfl (fun h4 => ?_) (fun h4 => ?_) | refine ct_ne rfl (fun h4 => ?_) (fun h4 => ?_) | refine ct_not rfl (fun h4 => ?_) (fun h4 => ?_) | refine ct_cond rfl (fun h4 => ?_) (fun h4 => ?_)
                ·
                  exfalso; first | omega | exact absurd rfl h4 | (simp at h4; done) | (simp_all; done)
                ·
                  refine ct_skip ?_
                  refine at_then ?_
                  refine ct_reg ?_
                  refine rl_val gw_none (ov_move rfl) rfl ?_
                  refine rl_val gw_none (ov_move rfl) rfl ?_
                  refine rl_val gw_none (ov_add rfl rfl (by omega)) rfl ?_
                  refine rl_val gw_none (ov_move rfl) rfl ?_
                  refine rl_val gw_none (ov_sub rfl rfl (by omega)) rfl ?_
                  refine rl_val gw_none (ov_assign rfl) rfl ?_
                  refine rl_nil ?_
                  refine at_block ?_
                  refine at_then ?_
                  refine ct_reg ?_
                  refine rl_val gw_none (ov_move rfl) rfl ?_
                  refine rl_val gw_none (ov_add rfl rfl (by omega)) rfl ?_
                  refine rl_val gw_none (ov_assign rfl) rfl ?_
                  refine rl_nil ?_
                  exact at_backR (k + 1) (by first | exact True.intro | omega | (dsimp only; omega) | (dsimp only at *; omega)) (by first | exact True.intro | omega | (dsimp only; omega) | (dsimp only at *; omega)) (by (repeat' (first | exact Sub.nil | refine Sub.cons ?_ ?_)); all_goals (first | rfl | exact lkInt rfl (by omega))) (Sub.cons rfl (Sub.cons rfl (Sub.cons rfl (Sub.cons rfl (Sub.cons rfl Sub.nil))))) (fun _ hq => hq)
            ·
              have hke : k = xs.length := by omega
              subst hke
              refine ct_exit ?_
              refine at_then_exit ?_
              refine at_then_exit ?_
              refine at_block_hit ?_
              refine at_then ?_
              refine ct_seq ?_
              refine ct_reg ?_
              refine rl_val gw_none (ov_move rfl) rfl ?_
              refine rl_val gw_none (ov_move rfl) rfl ?_
              refine rl_val gw_none (ov_neq rfl rfl) rfl ?_
              refine rl_nil ?_
              refine at_then ?_
              first | refine ct_dec rfl (fun h5 => ?_) (fun h5 => ?_) | refine ct_ndec rfl (fun h5 => ?_) (fun h5 => ?_) | refine ct_eq rfl (fun h5 => ?_) (fun h5 => ?_) | refine ct_ne rfl (fun h5 => ?_) (fun h5 => ?_) | refine ct_not rfl (fun h5 => ?_) (fun h5 => ?_) | refine ct_cond rfl (fun h5 => ?_) (fun h5 => ?_)
              ·
                exfalso; first | omega | exact absurd rfl h5 | (simp at h5; done) | (simp_all; done)
              ·
                refine ct_skip ?_
                exact at_handR () trivial (by (repeat' (first | exact Sub.nil | refine Sub.cons ?_ ?_)); all_goals (first | rfl | exact lkInt rfl (by omega))) (Sub.cons rfl Sub.nil) (fun _ hq => hq)
          ·
            skip
            refine ct_skip ?_
            exact at_handR () trivial (by (repeat' (first | exact Sub.nil | refine Sub.cons ?_ ?_)); all_goals (first | rfl | exact lkInt rfl (by omega))) (Sub.cons rfl Sub.nil) (fun _ hq => hq)
        ·
          refine ct_seq ?_
          refine ct_reg ?_
          refine rl_val gw_none (ov_move rfl) rfl ?_
          refine rl_calle (ι := (Option Nat × Nat × List Value × List Wood) × (Option Nat × Nat × List Value × List Repair)) (fun q => .tuple #[sv q.1.1 q.1.2.2.2.length q.1.2.1, sv q.2.1 q.2.2.2.2.length q.2.2.1]) (fun q => [(q.1.1, 67, flat encWood q.1.2.2.2 ++ q.1.2.2.1), (q.2.1, 53, flat encRepair q.2.2.2.2 ++ q.2.2.2.1)]) (fun q => (Sl 3 q.1.1 q.1.2.2.2.length q.1.2.1 (flat encWood q.1.2.2.2) q.1.2.2.1 ∧ q.1.2.2.2.length ≤ 10 ∧ (∀ y ∈ q.1.2.2.2, GWood y)) ∧ (Sl 5 q.2.1 q.2.2.2.2.length q.2.2.1 (flat encRepair q.2.2.2.2) q.2.2.2.1 ∧ q.2.2.2.2.length ≤ 12 ∧ (∀ y ∈ q.2.2.2.2, GRepair y))) goes54 rfl (fun w1 hp => DrawBeadsOfWood_c _ _ _ _ (hcd.call hp (E := []) (by simp))) rfl (fun qd hqd => ?_)
          obtain ⟨qw, qr⟩ := qd
          obtain ⟨hqw, hqr⟩ := hqd
          obtain ⟨bw2, cw2, pw2, ws2⟩ := qw
          obtain ⟨hslw2, hw102, hGw2⟩ := hqw
          obtain ⟨br2, cr2, pr2, xs2⟩ := qr
          obtain ⟨hslr2, hr122, hGr2⟩ := hqr
          dsimp only at hslw2 hw102 hGw2 hslr2 hr122 hGr2
          try dsimp only
          refine rl_val gw_none (ov_move rfl) rfl ?_
          refine rl_val gw_none (ov_extract rfl rfl) rfl ?_
          refine rl_val gw_none (ov_extract rfl rfl) rfl ?_
          refine rl_val gw_none (ov_assign rfl) rfl ?_
          refine rl_val gw_none (ov_assign rfl) rfl ?_
          refine rl_nil ?_
          refine at_then ?_
          refine ct_seq ?_
          refine ct_reg ?_
          refine rl_val gw_none (ov_move rfl) rfl ?_
          refine rl_val gw_none (ov_move rfl) rfl ?_
          refine rl_callsl (ι := Nat × List Value) (fun i bo => .tuple #[sv bo (beadsRes ws2 xs2).length i.1, .bool (repairsB ws2 xs2)]) (fun i => ints (beadsRes ws2 xs2) ++ i.2) (fun i bo => Sl 1 bo (beadsRes ws2 xs2).length i.1 (ints (beadsRes ws2 xs2)) i.2) goes48 rfl (fun w1 hp => iBeadsOfWood_c ws2 xs2 _ _ _ hGw2 (hp.slsr 0 rfl hslw2) hGr2 (hp.slsr 1 rfl hslr2)) rfl (fun iB1 boB1 hsB1 => ?_)
          refine rl_val gw_none (ov_move rfl) rfl ?_
          refine rl_val gw_none (ov_extract rfl rfl) rfl ?_
          refine rl_val gw_none (ov_extract rfl rfl) rfl ?_
          refine rl_val gw_none (ov_assign rfl) rfl ?_
          refine rl_val gw_none (ov_assign rfl) rfl ?_
          refine rl_nil ?_
          refine at_then ?_
          refine ct_seq ?_
          refine ct_seq ?_
          refine ct_reg ?_
          refine rl_val gw_none (ov_move rfl) rfl ?_
          refine rl_val gw_none (ov_move rfl) rfl ?_
          refine rl_callsl (ι := Nat × List Value) (fun i bo => .tuple #[sv bo (beadsRes ws2 xs2).length i.1, .bool (repairsB ws2 xs2)]) (fun i => ints (beadsRes ws2 xs2) ++ i.2) (fun i bo => Sl 1 bo (beadsRes ws2 xs2).length i.1 (ints (beadsRes ws2 xs2)) i.2) goes47 rfl (fun w1 hp => sBeadsOfWood_c ws2 xs2 _ _ _ hGw2 (hp.slsr 1 rfl hslw2) hGr2 (hp.slsr 2 rfl hslr2)) rfl (fun iB2 boB2 hsB2 => ?_)
          refine rl_val gw_none (ov_move rfl) rfl ?_
          refine rl_val gw_none (ov_extract rfl rfl) rfl ?_
          refine rl_val gw_none (ov_extract rfl rfl) rfl ?_
          refine rl_val gw_none (ov_assign rfl) rfl ?_
          refine rl_val gw_none (ov_assign rfl) rfl ?_
          refine rl_nil ?_
          refine at_then ?_
          refine ct_seq ?_
          refine ct_reg ?_
          refine rl_val gw_none (ov_move rfl) rfl ?_
          refine rl_val gw_none (ov_move rfl) rfl ?_
          refine rl_val gw_none (ov_neb Try.underlying4 rfl rfl) rfl ?_
          refine rl_val gw_none (ov_move rfl) rfl ?_
          refine rl_split (t := 145) rfl (fun g4 => ?_) (fun g4 => ?_)
          ·
            exfalso; first | (simp at g4; omega) | (simp at g4; done) | (simp_all; done)
          ·
            refine rl_val (gw_some rfl rfl g4) (ov_move rfl) rfl ?_
            refine rl_val (gw_some rfl rfl g4) (ov_move rfl) rfl ?_
            refine rl_callv (gw_some rfl rfl g4) goes36 rfl (fun w1 hp => rInts_c _ _ _ _ (hp.slsr 1 rfl hsB1) (hp.slsr 0 rfl hsB2)) rfl ?_
            refine rl_val (gw_some rfl rfl g4) (ov_not rfl) rfl ?_
            refine rl_val gw_none (ov_pick_f rfl g4 rfl) rfl ?_
            refine rl_nil ?_
            refine at_then ?_
            refine ct_false rfl rfl ?_
            refine ct_skip ?_
            refine at_then ?_
            refine ct_seq ?_
            refine ct_reg ?_
            refine rl_val gw_none (ov_assign rfl) rfl ?_
            refine rl_nil ?_
            refine at_then ?_
            refine ct_seq ?_
            refine ct_seq ?_
            refine ct_reg ?_
            refine rl_val gw_none (ov_assign rfl) rfl ?_
            refine rl_nil ?_
            refine at_then ?_
            refine ct_cutTS (ι := Int) (fun sm => [(25, .int .i64 sm)]) [(0, _), (21, _)] _ (fun sm => sm = (beadsRes ws2 xs2).sum) (Sub.cons rfl (Sub.cons rfl Sub.nil)) (fun _ hq => hq) ?_ (fun sm hsm => ?_)
            ·
              refine ct_block ?_
              refine ct_loopR (ι := Nat) (fun k => [(25, .int .i64 (allB xs2 k)), (26, .int .i64 k)]) [(0, _), (20, _), (21, _), (22, _)] (fun _ => _) (fun k => k ≤ xs2.length ∧ (repairsB ws2 xs2 = false → k = 0)) (fun k => xs2.length - k) (0) (Sub.cons rfl (Sub.cons rfl (Sub.cons rfl (Sub.cons rfl Sub.nil)))) (fun _ hq => hq) (by (repeat' (first | exact Sub.nil | refine Sub.cons ?_ ?_)); all_goals (first | rfl | exact lkInt rfl (by omega))) ⟨Nat.zero_le _, fun _ => rfl⟩ (fun k hi => ?_)
              obtain ⟨hk, hk0⟩ := hi
              refine ct_seq ?_
              refine ct_seq ?_
              refine ct_reg ?_
              refine rl_val gw_none (ov_move rfl) rfl ?_
              refine rl_val gw_none (ov_move rfl) rfl ?_
              refine rl_val gw_none (ov_len Try.underlying37 rfl) rfl ?_
              refine rl_val gw_none (ov_lss rfl rfl) rfl ?_
              refine rl_val gw_none (ov_move rfl) rfl ?_
              refine rl_split (t := 155) rfl (fun g5 => ?_) (fun g5 => ?_)
              ·
                skip
                refine rl_val (gw_some rfl rfl g5) (ov_move rfl) rfl ?_
                refine rl_val gw_none (ov_pick_t rfl g5 rfl) rfl ?_
                refine rl_nil ?_
                refine at_then ?_
                first | refine ct_dec rfl (fun h6 => ?_) (fun h6 => ?_) | refine ct_ndec rfl (fun h6 => ?_) (fun h6 => ?_) | refine ct_eq rfl (fun h6 => ?_) (fun h6 => ?_) | refine ct_ne rfl (fun h6 => ?_) (fun h6 => ?_) | refine ct_not rfl (fun h6 => ?_) (fun h6 => ?_) | refine ct_cond rfl (fun h6 => ?_) (fun h6 => ?_)
                ·
                  have hok2 : repairsB ws2 xs2 = true := by simpa using h6
                  have hk2 : k < xs2.length := by simp at g5; omega
                  obtain ⟨b2, rfl⟩ := slSomeG hslr2 (by omega)
                  have hx := getLt hk2
                  have hab := allB_bd hok2 k
                  have has := allB_succ hx
                  generalize xs2[k] = r at *
                  have hx10 := (repairs_woods hok2).2
                  have hrb := repairB_at hok2 hx
                  unfold repairB inB at hrb
                  simp only [Bool.and_eq_true, decide_eq_true_eq] at hrb
                  refine ct_skip ?_
                  refine at_then ?_
                  refine ct_seq ?_
                  refine ct_block ?_
                  refine ct_reg ?_
                  refine rl_val gw_none (ov_move rfl) rfl ?_
                  refine rl_val gw_none (ov_move rfl) rfl ?_
                  refine rl_val gw_none (ov_move rfl) rfl ?_
                  first | refine rl_val gw_none (ov_ix Try.underlying37 sz53 rfl rfl _ rfl (by omega)) rfl ?_ | refine rl_val gw_none (ov_ix Try.underlying37 sz53 rfl rfl (k) (by omega) (by omega)) rfl ?_ | refine rl_val gw_none (ov_ix Try.underlying37 sz53 rfl rfl (b) (by omega) (by omega)) rfl ?_
                  refine rl_val gw_none (ov_field fo53_2 rfl) rfl ?_
                  refine rl_val gw_none (ov_load 3 sc3 rfl rfl (flatGetG encRepair_len (f := 2) hx rfl _)) rfl ?_
                  refine rl_val gw_none (ov_add rfl rfl (by omega)) rfl ?_
                  refine rl_val gw_none (ov_assign rfl) rfl ?_
                  refine rl_nil ?_
                  refine at_block ?_
                  refine at_then ?_
                  refine ct_reg ?_
                  refine rl_val gw_none (ov_move rfl) rfl ?_
                  refine rl_val gw_none (ov_add rfl rfl (by omega)) rfl ?_
                  refine rl_val gw_none (ov_assign rfl) rfl ?_
                  refine rl_nil ?_
                  exact at_backR (k + 1) ⟨by omega, fun hf => absurd hf (by rw [hok2]; simp)⟩ (by first | exact True.intro | omega | (dsimp only; omega) | (dsimp only at *; omega)) (by (repeat' (first | exact Sub.nil | refine Sub.cons ?_ ?_)); all_goals (first | rfl | exact lkInt rfl (by omega))) (Sub.cons rfl (Sub.cons rfl (Sub.cons rfl (Sub.cons rfl Sub.nil)))) (fun _ hq => hq)
                ·
                  skip
                  refine ct_exit ?_
                  refine at_then_exit ?_
                  refine at_then_exit ?_
                  refine at_block_hit ?_
                  exact at_handR (allB xs2 k) (beads_fin hk0 (by first | (left; omega) | (right; simpa using h6))) (by (repeat' (first | exact Sub.nil | refine Sub.cons ?_ ?_)); all_goals (first | rfl | exact lkInt rfl (by omega))) (Sub.cons rfl (Sub.cons rfl Sub.nil)) (fun _ hq => hq)
              ·
                have hke : k = xs2.length := by simp at g5; omega
                refine rl_skip (gw_not rfl rfl g5) rfl ?_
                refine rl_val gw_none (ov_pick_f rfl g5 rfl) rfl ?_
                refine rl_nil ?_
                refine at_then ?_
                refine ct_false rfl rfl ?_
                refine ct_exit ?_
                refine at_then_exit ?_
                refine at_then_exit ?_
                refine at_block_hit ?_
                exact at_handR (allB xs2 k) (beads_fin hk0 (by first | (left; omega) | (right; simpa using h6))) (by (repeat' (first | exact Sub.nil | refine Sub.cons ?_ ?_)); all_goals (first | rfl | exact lkInt rfl (by omega))) (Sub.cons rfl (Sub.cons rfl Sub.nil)) (fun _ hq => hq)
            ·
              refine ct_seq ?_
              refine ct_seq ?_
              refine ct_reg ?_
              refine rl_val gw_none (ov_move rfl) rfl ?_
              refine rl_callv gw_none goes55 rfl (fun w1 hp => rSum_c _ _ _ (hp.slsr 1 rfl hsB1) (beads_sumbd ws2 xs2) (beadsRes_len ws2 xs2)) rfl ?_
              refine rl_val gw_none (ov_move rfl) rfl ?_
              refine rl_val gw_none (ov_neq rfl rfl) rfl ?_
              refine rl_nil ?_
              refine at_then ?_
              first | refine ct_dec rfl (fun h7 => ?_) (fun h7 => ?_) | refine ct_ndec rfl (fun h7 => ?_) (fun h7 => ?_) | refine ct_eq rfl (fun h7 => ?_) (fun h7 => ?_) | refine ct_ne rfl (fun h7 => ?_) (fun h7 => ?_) | refine ct_not rfl (fun h7 => ?_) (fun h7 => ?_) | refine ct_cond rfl (fun h7 => ?_) (fun h7 => ?_)
              ·
                exfalso; first | omega | exact absurd rfl h7 | (simp at h7; done) | (simp_all; done)
              ·
                refine ct_skip ?_
                refine at_then ?_
                refine ct_seq ?_
                refine ct_reg ?_
                refine rl_val gw_none (ov_move rfl) rfl ?_
                refine rl_calle (ι := (Option Nat × Nat × List Value × List Wood) × Int) (fun q => .tuple #[sv q.1.1 q.1.2.2.2.length q.1.2.1, .int .i64 q.2]) (fun q => [(q.1.1, 67, flat encWood q.1.2.2.2 ++ q.1.2.2.1)]) (fun q => (Sl 3 q.1.1 q.1.2.2.2.length q.1.2.1 (flat encWood q.1.2.2.2) q.1.2.2.1 ∧ q.1.2.2.2.length ≤ 10 ∧ (∀ y ∈ q.1.2.2.2, GWood y)) ∧ In64 q.2) goes56 rfl (fun w1 hp => DrawCheapestWood_c _ _ _ _ (hcd.call hp (E := []) (by simp))) rfl (fun qd hqd => ?_)
                obtain ⟨qw, mi3⟩ := qd
                obtain ⟨hqw, zmi3⟩ := hqd
                obtain ⟨bw3, cw3, pw3, ws3⟩ := qw
                obtain ⟨hslw3, hw103, hGw3⟩ := hqw
                dsimp only at hslw3 hw103 hGw3 zmi3
                try dsimp only
                refine rl_val gw_none (ov_move rfl) rfl ?_
                refine rl_val gw_none (ov_extract rfl rfl) rfl ?_
                refine rl_val gw_none (ov_extract rfl rfl) rfl ?_
                refine rl_val gw_none (ov_assign rfl) rfl ?_
                refine rl_val gw_none (ov_assign rfl) rfl ?_
                refine rl_nil ?_
                refine at_then ?_
                refine ct_seq ?_
                refine ct_reg ?_
                refine rl_val gw_none (ov_move rfl) rfl ?_
                refine rl_val gw_none (ov_move rfl) rfl ?_
                refine rl_callv gw_none goes21 rfl (fun w1 hp => iCheapestWood_c ws3 mi3 _ _ hGw3 (hp.slsr 0 rfl hslw3) zmi3) rfl ?_
                refine rl_val gw_none (ov_move rfl) rfl ?_
                refine rl_val gw_none (ov_extract rfl rfl) rfl ?_
                refine rl_val gw_none (ov_extract rfl rfl) rfl ?_
                refine rl_val gw_none (ov_assign rfl) rfl ?_
                refine rl_val gw_none (ov_assign rfl) rfl ?_
                refine rl_nil ?_
                refine at_then ?_
                refine ct_seq ?_
                refine ct_seq ?_
                refine ct_reg ?_
                refine rl_val gw_none (ov_move rfl) rfl ?_
                refine rl_val gw_none (ov_move rfl) rfl ?_
                refine rl_callv gw_none goes20 rfl (fun w1 hp => sCheapestWood_c ws3 mi3 _ _ hGw3 (hp.slsr 0 rfl hslw3) zmi3) rfl ?_
                refine rl_val gw_none (ov_move rfl) rfl ?_
                refine rl_val gw_none (ov_extract rfl rfl) rfl ?_
                refine rl_val gw_none (ov_extract rfl rfl) rfl ?_
                refine rl_val gw_none (ov_assign rfl) rfl ?_
                refine rl_val gw_none (ov_assign rfl) rfl ?_
                refine rl_nil ?_
                refine at_then ?_
                refine ct_seq ?_
                refine ct_reg ?_
                refine rl_val gw_none (ov_move rfl) rfl ?_
                refine rl_val gw_none (ov_move rfl) rfl ?_
                refine rl_val gw_none (ov_neq rfl rfl) rfl ?_
                refine rl_val gw_none (ov_move rfl) rfl ?_
                refine rl_split (t := 191) rfl (fun g6 => ?_) (fun g6 => ?_)
                ·
                  exfalso; first | (simp at g6; omega) | (simp at g6; done) | (simp_all; done)
                ·
                  refine rl_val (gw_some rfl rfl g6) (ov_move rfl) rfl ?_
                  refine rl_val (gw_some rfl rfl g6) (ov_move rfl) rfl ?_
                  refine rl_val (gw_some rfl rfl g6) (ov_neb Try.underlying4 rfl rfl) rfl ?_
                  refine rl_val gw_none (ov_pick_f rfl g6 rfl) rfl ?_
                  refine rl_nil ?_
                  refine at_then ?_
                  first | refine ct_dec rfl (fun h8 => ?_) (fun h8 => ?_) | refine ct_ndec rfl (fun h8 => ?_) (fun h8 => ?_) | refine ct_eq rfl (fun h8 => ?_) (fun h8 => ?_) | refine ct_ne rfl (fun h8 => ?_) (fun h8 => ?_) | refine ct_not rfl (fun h8 => ?_) (fun h8 => ?_) | refine ct_cond rfl (fun h8 => ?_) (fun h8 => ?_)
                  ·
                    exfalso; first | omega | exact absurd rfl h8 | (simp at h8; done) | (simp_all; done)
                  ·
                    refine ct_skip ?_
                    refine at_then ?_
                    refine ct_seq ?_
                    refine ct_seq ?_
                    refine ct_reg ?_
                    refine rl_val gw_none (ov_assign rfl) rfl ?_
                    refine rl_nil ?_
                    refine at_then ?_
                    refine ct_cutTS (ι := Unit) (fun _ => []) [(0, _)] _ (fun _ => True) (Sub.cons rfl Sub.nil) (fun _ hq => hq) ?_ (fun _ _ => ?_)
                    ·
                      refine ct_block ?_
                      refine ct_loopR (ι := Nat) (fun k => [(33, .int .i64 k)]) [(0, _), (27, _), (28, _), (29, _), (30, _)] (fun _ => _) (fun k => k ≤ ws3.length) (fun k => ws3.length - k) (0) (Sub.cons rfl (Sub.cons rfl (Sub.cons rfl (Sub.cons rfl (Sub.cons rfl Sub.nil))))) (fun _ hq => hq) (by (repeat' (first | exact Sub.nil | refine Sub.cons ?_ ?_)); all_goals (first | rfl | exact lkInt rfl (by omega))) (by first | exact True.intro | omega | (dsimp only; omega) | (dsimp only at *; omega)) (fun k hk => ?_)
                      refine ct_seq ?_
                      refine ct_seq ?_
                      refine ct_reg ?_
                      refine rl_val gw_none (ov_move rfl) rfl ?_
                      refine rl_val gw_none (ov_move rfl) rfl ?_
                      refine rl_val gw_none (ov_len Try.underlying25 rfl) rfl ?_
                      refine rl_val gw_none (ov_lss rfl rfl) rfl ?_
                      refine rl_val gw_none (ov_move rfl) rfl ?_
                      refine rl_split (t := 200) rfl (fun g7 => ?_) (fun g7 => ?_)
                      ·
                        skip
                        refine rl_val (gw_some rfl rfl g7) (ov_move rfl) rfl ?_
                        refine rl_val gw_none (ov_pick_t rfl g7 rfl) rfl ?_
                        refine rl_nil ?_
                        refine at_then ?_
                        first | refine ct_dec rfl (fun h9 => ?_) (fun h9 => ?_) | refine ct_ndec rfl (fun h9 => ?_) (fun h9 => ?_) | refine ct_eq rfl (fun h9 => ?_) (fun h9 => ?_) | refine ct_ne rfl (fun h9 => ?_) (fun h9 => ?_) | refine ct_not rfl (fun h9 => ?_) (fun h9 => ?_) | refine ct_cond rfl (fun h9 => ?_) (fun h9 => ?_)
                        ·
                          have hc : (cheapR ws3 mi3).2 = true := by simpa using h9
                          have hk2 : k < ws3.length := by simp at g7; omega
                          obtain ⟨b, y, hb1, hb2, hbh, hbc⟩ := cheap_told hc
                          have hbk : b < ws3.length := (List.getElem?_eq_some_iff.1 hb2).1
                          obtain ⟨b3, rfl⟩ := slSomeG hslw3 (by omega)
                          have hx := getLt hk2
                          have hxc := hbc k _ hx
                          generalize ws3[k] = x at *
                          refine ct_skip ?_
                          refine at_then ?_
                          refine ct_seq ?_
                          refine ct_block ?_
                          refine ct_seq ?_
                          refine ct_dr 29 (by kernel_rfl) (by kernel_rfl) ?_
                          refine ql_val gw_none (ov_move rfl) rfl ?_
                          refine ql_val gw_none (ov_move rfl) rfl ?_
                          first | refine ql_val gw_none (ov_ix Try.underlying25 sz67 rfl rfl _ rfl (by omega)) rfl ?_ | refine ql_val gw_none (ov_ix Try.underlying25 sz67 rfl rfl (k) (by omega) (by omega)) rfl ?_ | refine ql_val gw_none (ov_ix Try.underlying25 sz67 rfl rfl (b) (by omega) (by omega)) rfl ?_
                          refine ql_val gw_none (ov_field fo67_1 rfl) rfl ?_
                          refine ql_val gw_none (ov_load 0 sc3 rfl rfl (flatGetG encWood_len (f := 1) hb2 rfl _)) rfl ?_
                          refine ql_val gw_none (ov_move rfl) rfl ?_
                          refine ql_val gw_none (ov_lss rfl rfl) rfl ?_
                          refine ql_val gw_none (ov_move rfl) rfl ?_
                          refine ql_split (t := 212) rfl (fun g8 => ?_) (fun g8 => ?_)
                          ·
                            exfalso; first | (simp at g8; omega) | (simp at g8; done) | (simp_all; done)
                          ·
                            refine ql_val (gw_some rfl rfl g8) (ov_move rfl) rfl ?_
                            refine ql_val (gw_some rfl rfl g8) (ov_move rfl) rfl ?_
                            first | refine ql_val (gw_some rfl rfl g8) (ov_ix Try.underlying25 sz67 rfl rfl _ rfl (by omega)) rfl ?_ | refine ql_val (gw_some rfl rfl g8) (ov_ix Try.underlying25 sz67 rfl rfl (k) (by omega) (by omega)) rfl ?_ | refine ql_val (gw_some rfl rfl g8) (ov_ix Try.underlying25 sz67 rfl rfl (b) (by omega) (by omega)) rfl ?_
                            refine ql_val (gw_some rfl rfl g8) (ov_field fo67_1 rfl) rfl ?_
                            refine ql_val (gw_some rfl rfl g8) (ov_load 0 sc3 rfl rfl (flatGetG encWood_len (f := 1) hx rfl _)) rfl ?_
                            refine ql_val (gw_some rfl rfl g8) (ov_move rfl) rfl ?_
                            refine ql_val (gw_some rfl rfl g8) (ov_geq rfl rfl) rfl ?_
                            refine ql_val (gw_some rfl rfl g8) (ov_move rfl) rfl ?_
                            refine ql_split (t := 220) rfl (fun g9 => ?_) (fun g9 => ?_)
                            ·
                              have hxc2 : y.cost ≤ x.cost := hxc (by simp at g9; omega)
                              refine ql_val (gw_some rfl rfl g9) (ov_move rfl) rfl ?_
                              refine ql_val (gw_some rfl rfl g9) (ov_move rfl) rfl ?_
                              first | refine ql_val (gw_some rfl rfl g9) (ov_ix Try.underlying25 sz67 rfl rfl _ rfl (by omega)) rfl ?_ | refine ql_val (gw_some rfl rfl g9) (ov_ix Try.underlying25 sz67 rfl rfl (k) (by omega) (by omega)) rfl ?_ | refine ql_val (gw_some rfl rfl g9) (ov_ix Try.underlying25 sz67 rfl rfl (b) (by omega) (by omega)) rfl ?_
                              refine ql_val (gw_some rfl rfl g9) (ov_field fo67_2 rfl) rfl ?_
                              refine ql_val (gw_some rfl rfl g9) (ov_load 0 sc3 rfl rfl (flatGetG encWood_len (f := 2) hx rfl _)) rfl ?_
                              refine ql_val (gw_some rfl rfl g9) (ov_move rfl) rfl ?_
                              refine ql_val (gw_some rfl rfl g9) (ov_move rfl) rfl ?_
                              first | refine ql_val (gw_some rfl rfl g9) (ov_ix Try.underlying25 sz67 rfl rfl _ rfl (by omega)) rfl ?_ | refine ql_val (gw_some rfl rfl g9) (ov_ix Try.underlying25 sz67 rfl rfl (k) (by omega) (by omega)) rfl ?_ | refine ql_val (gw_some rfl rfl g9) (ov_ix Try.underlying25 sz67 rfl rfl (b) (by omega) (by omega)) rfl ?_
                              refine ql_val (gw_some rfl rfl g9) (ov_field fo67_2 rfl) rfl ?_
                              refine ql_val (gw_some rfl rfl g9) (ov_load 0 sc3 rfl rfl (flatGetG encWood_len (f := 2) hb2 rfl _)) rfl ?_
                              refine ql_val (gw_some rfl rfl g9) (ov_lss rfl rfl) rfl ?_
                              refine ql_val (gw_some rfl rfl g8) (ov_pick_t rfl g9 rfl) rfl ?_
                              refine ql_val gw_none (ov_pick_f rfl g8 rfl) rfl ?_
                              refine ql_nil ?_
                              refine rl_nil ?_
                              refine at_then ?_
                              first | refine ct_dec rfl (fun h10 => ?_) (fun h10 => ?_) | refine ct_ndec rfl (fun h10 => ?_) (fun h10 => ?_) | refine ct_eq rfl (fun h10 => ?_) (fun h10 => ?_) | refine ct_ne rfl (fun h10 => ?_) (fun h10 => ?_) | refine ct_not rfl (fun h10 => ?_) (fun h10 => ?_) | refine ct_cond rfl (fun h10 => ?_) (fun h10 => ?_)
                              ·
                                exfalso; first | omega | exact absurd rfl h10 | (simp at h10; done) | (simp_all; done)
                              ·
                                refine ct_skip ?_
                                refine at_block ?_
                                refine at_then ?_
                                refine ct_reg ?_
                                refine rl_val gw_none (ov_move rfl) rfl ?_
                                refine rl_val gw_none (ov_add rfl rfl (by omega)) rfl ?_
                                refine rl_val gw_none (ov_assign rfl) rfl ?_
                                refine rl_nil ?_
                                exact at_backR (k + 1) (by first | exact True.intro | omega | (dsimp only; omega) | (dsimp only at *; omega)) (by first | exact True.intro | omega | (dsimp only; omega) | (dsimp only at *; omega)) (by (repeat' (first | exact Sub.nil | refine Sub.cons ?_ ?_)); all_goals (first | rfl | exact lkInt rfl (by omega))) (Sub.cons rfl (Sub.cons rfl (Sub.cons rfl (Sub.cons rfl (Sub.cons rfl Sub.nil))))) (fun _ hq => hq)
                            ·
                              skip
                              refine ql_skip (gw_not rfl rfl g9) rfl ?_
                              refine ql_skip (gw_not rfl rfl g9) rfl ?_
                              refine ql_skip (gw_not rfl rfl g9) rfl ?_
                              refine ql_skip (gw_not rfl rfl g9) rfl ?_
                              refine ql_skip (gw_not rfl rfl g9) rfl ?_
                              refine ql_skip (gw_not rfl rfl g9) rfl ?_
                              refine ql_skip (gw_not rfl rfl g9) rfl ?_
                              refine ql_skip (gw_not rfl rfl g9) rfl ?_
                              refine ql_skip (gw_not rfl rfl g9) rfl ?_
                              refine ql_skip (gw_not rfl rfl g9) rfl ?_
                              refine ql_skip (gw_not rfl rfl g9) rfl ?_
                              refine ql_val (gw_some rfl rfl g8) (ov_pick_f rfl g9 rfl) rfl ?_
                              refine ql_val gw_none (ov_pick_f rfl g8 rfl) rfl ?_
                              refine ql_nil ?_
                              refine rl_nil ?_
                              refine at_then ?_
                              refine ct_false rfl rfl ?_
                              refine ct_skip ?_
                              refine at_block ?_
                              refine at_then ?_
                              refine ct_reg ?_
                              refine rl_val gw_none (ov_move rfl) rfl ?_
                              refine rl_val gw_none (ov_add rfl rfl (by omega)) rfl ?_
                              refine rl_val gw_none (ov_assign rfl) rfl ?_
                              refine rl_nil ?_
                              exact at_backR (k + 1) (by first | exact True.intro | omega | (dsimp only; omega) | (dsimp only at *; omega)) (by first | exact True.intro | omega | (dsimp only; omega) | (dsimp only at *; omega)) (by (repeat' (first | exact Sub.nil | refine Sub.cons ?_ ?_)); all_goals (first | rfl | exact lkInt rfl (by omega))) (Sub.cons rfl (Sub.cons rfl (Sub.cons rfl (Sub.cons rfl (Sub.cons rfl Sub.nil))))) (fun _ hq => hq)
                        ·
                          skip
                          refine ct_exit ?_
                          refine at_then_exit ?_
                          refine at_then_exit ?_
                          refine at_block_hit ?_
                          exact at_handR () trivial (by (repeat' (first | exact Sub.nil | refine Sub.cons ?_ ?_)); all_goals (first | rfl | exact lkInt rfl (by omega))) (Sub.cons rfl Sub.nil) (fun _ hq => hq)
                      ·
                        skip
                        refine rl_skip (gw_not rfl rfl g7) rfl ?_
                        refine rl_val gw_none (ov_pick_f rfl g7 rfl) rfl ?_
                        refine rl_nil ?_
                        refine at_then ?_
                        refine ct_false rfl rfl ?_
                        refine ct_exit ?_
                        refine at_then_exit ?_
                        refine at_then_exit ?_
                        refine at_block_hit ?_
                        exact at_handR () trivial (by (repeat' (first | exact Sub.nil | refine Sub.cons ?_ ?_)); all_goals (first | rfl | exact lkInt rfl (by omega))) (Sub.cons rfl Sub.nil) (fun _ hq => hq)
                    ·
                      refine ct_seq ?_
                      refine ct_reg ?_
                      refine rl_val gw_none (ov_move rfl) rfl ?_
                      refine rl_calle (ι := (Option Nat × Nat × List Value × List Wood) × (Option Nat × Nat × List Value × List Repair) × Int) (fun q => .tuple #[sv q.1.1 q.1.2.2.2.length q.1.2.1, sv q.2.1.1 q.2.1.2.2.2.length q.2.1.2.1, .int .i64 q.2.2]) (fun q => [(q.1.1, 67, flat encWood q.1.2.2.2 ++ q.1.2.2.1), (q.2.1.1, 53, flat encRepair q.2.1.2.2.2 ++ q.2.1.2.2.1)]) (fun q => (Sl 3 q.1.1 q.1.2.2.2.length q.1.2.1 (flat encWood q.1.2.2.2) q.1.2.2.1 ∧ q.1.2.2.2.length ≤ 10 ∧ (∀ y ∈ q.1.2.2.2, GWood y)) ∧ (Sl 5 q.2.1.1 q.2.1.2.2.2.length q.2.1.2.1 (flat encRepair q.2.1.2.2.2) q.2.1.2.2.1 ∧ q.2.1.2.2.2.length ≤ 12 ∧ (∀ y ∈ q.2.1.2.2.2, GRepair y)) ∧ In64 q.2.2) goes57 rfl (fun w1 hp => DrawCostOf_c _ _ _ _ (hcd.call hp (E := []) (by simp))) rfl (fun qd hqd => ?_)
                      obtain ⟨qw, qr, mi4⟩ := qd
                      obtain ⟨hqw, hqr, zmi4⟩ := hqd
                      obtain ⟨bw4, cw4, pw4, ws4⟩ := qw
                      obtain ⟨hslw4, hw104, hGw4⟩ := hqw
                      obtain ⟨br4, cr4, pr4, xs4⟩ := qr
                      obtain ⟨hslr4, hr124, hGr4⟩ := hqr
                      dsimp only at hslw4 hw104 hGw4 hslr4 hr124 hGr4 zmi4
                      try dsimp only
                      refine rl_val gw_none (ov_move rfl) rfl ?_
                      refine rl_val gw_none (ov_extract rfl rfl) rfl ?_
                      refine rl_val gw_none (ov_extract rfl rfl) rfl ?_
                      refine rl_val gw_none (ov_extract rfl rfl) rfl ?_
                      refine rl_val gw_none (ov_assign rfl) rfl ?_
                      refine rl_val gw_none (ov_assign rfl) rfl ?_
                      refine rl_val gw_none (ov_assign rfl) rfl ?_
                      refine rl_nil ?_
                      refine at_then ?_
                      refine ct_seq ?_
                      refine ct_reg ?_
                      refine rl_val gw_none (ov_move rfl) rfl ?_
                      refine rl_val gw_none (ov_move rfl) rfl ?_
                      refine rl_val gw_none (ov_move rfl) rfl ?_
                      refine rl_callv gw_none goes46 rfl (fun w1 hp => iCostOf_c ws4 xs4 mi4 _ _ _ hGw4 (hp.slsr 0 rfl hslw4) hGr4 (hp.slsr 1 rfl hslr4) zmi4) rfl ?_
                      refine rl_val gw_none (ov_move rfl) rfl ?_
                      refine rl_val gw_none (ov_extract rfl rfl) rfl ?_
                      refine rl_val gw_none (ov_extract rfl rfl) rfl ?_
                      refine rl_val gw_none (ov_assign rfl) rfl ?_
                      refine rl_val gw_none (ov_assign rfl) rfl ?_
                      refine rl_nil ?_
                      refine at_then ?_
                      refine ct_seq ?_
                      refine ct_reg ?_
                      refine rl_val gw_none (ov_move rfl) rfl ?_
                      refine rl_val gw_none (ov_move rfl) rfl ?_
                      refine rl_val gw_none (ov_move rfl) rfl ?_
                      refine rl_callv gw_none goes45 rfl (fun w1 hp => sCostOf_c ws4 xs4 mi4 _ _ _ hGw4 (hp.slsr 0 rfl hslw4) hGr4 (hp.slsr 1 rfl hslr4) zmi4) rfl ?_
                      refine rl_val gw_none (ov_move rfl) rfl ?_
                      refine rl_val gw_none (ov_extract rfl rfl) rfl ?_
                      refine rl_val gw_none (ov_extract rfl rfl) rfl ?_
                      refine rl_val gw_none (ov_assign rfl) rfl ?_
                      refine rl_val gw_none (ov_assign rfl) rfl ?_
                      refine rl_nil ?_
                      refine at_then ?_
                      refine ct_seq ?_
                      refine ct_reg ?_
                      refine rl_val gw_none (ov_move rfl) rfl ?_
                      refine rl_val gw_none (ov_move rfl) rfl ?_
                      refine rl_val gw_none (ov_eql rfl rfl) rfl ?_
                      refine rl_val gw_none (ov_move rfl) rfl ?_
                      refine rl_split (t := 257) rfl (fun g10 => ?_) (fun g10 => ?_)
                      ·
                        skip
                        refine rl_val (gw_some rfl rfl g10) (ov_move rfl) rfl ?_
                        refine rl_val (gw_some rfl rfl g10) (ov_move rfl) rfl ?_
                        refine rl_val (gw_some rfl rfl g10) (ov_eqb Try.underlying4 rfl rfl) rfl ?_
                        refine rl_val gw_none (ov_pick_t rfl g10 rfl) rfl ?_
                        refine rl_val gw_none (ov_move rfl) rfl ?_
                        refine rl_split (t := 262) rfl (fun g11 => ?_) (fun g11 => ?_)
                        ·
                          skip
                          refine rl_val (gw_some rfl rfl g11) (ov_move rfl) rfl ?_
                          refine rl_callv (gw_some rfl rfl g11) goes18 rfl (fun w1 hp => iAreWoods_c ws4 _ _ hGw4 (hp.slsr 0 rfl hslw4)) rfl ?_
                          refine rl_val (gw_some rfl rfl g11) (ov_move rfl) rfl ?_
                          refine rl_callv (gw_some rfl rfl g11) goes16 rfl (fun w1 hp => sAreWoods_c ws4 _ _ hGw4 (hp.slsr 0 rfl hslw4)) rfl ?_
                          refine rl_val (gw_some rfl rfl g11) (ov_eqb Try.underlying4 rfl rfl) rfl ?_
                          refine rl_val gw_none (ov_pick_t rfl g11 rfl) rfl ?_
                          refine rl_val gw_none (ov_assign rfl) rfl ?_
                          refine rl_nil ?_
                          refine at_then ?_
                          refine ct_ret ?_
                          refine at_ret1 Try.results14 (ro_tmp rfl) (fun w1 hp => ?_)
                          refine ⟨?_, hp.ext0⟩
                          first | rfl | (simp; done)
                        ·
                          exfalso; simp at g11
                      ·
                        exfalso; simp at g10
end Go.Proofs.Ytaajkamfeaafpaa
