import Derived.Test.YtgnnlgmeagipjaaUe
import Derived.Test.YtgnnlgmeagipjaaUd
import Derived.Test.YtgnnlgmeagipjaaGa
import Derived.Test.YtgnnlgmeagipjaaVe
import Derived.Test.YtgnnlgmeagipjaaTn
import Derived.Test.YtgnnlgmeagipjaaTo
import Derived.Test.YtgnnlgmeagipjaaTu
import Derived.Test.YtgnnlgmeagipjaaTv
import Derived.KernelRfl
set_option linter.unusedVariables false
set_option linter.unusedSimpArgs false
namespace Go.Proofs.Ytgnnlgmeagipjaa
open Go Go.RowKit K
theorem law_FnTours (cs : List Int) (vcs : Value) (w : World) (hGcs : ∀ x ∈ cs, 0 ≤ x ∧ x ≤ 255) (hscs : SR w 1 vcs cs.length (flat (fun i => [Value.int .u8 i]) cs)) : Calls Try.prog 5 ([vcs]).toArray w (fun e w' => e = .returned (.bool true) ∧ Ext w w') := by
  obtain ⟨a, capc, rfl, _, _⟩ := hscs.slice
  have hlenc := hscs.len_le
  have hcd := CodeOk.ofF hscs hGcs
  refine calls_ct Try.func5 Try.ntmps5 rfl rfl ?_
  refine ct_seq ?_
  refine ct_reg ?_
  refine rl_val gw_none (ov_assign rfl) rfl ?_
  refine rl_nil ?_
  refine at_then ?_
  refine ct_seq ?_
  refine ct_seq ?_
  refine ct_reg ?_
  refine rl_val gw_none (ov_move rfl) rfl ?_
  refine rl_callv gw_none goes17 rfl (fun w1 hp => rBig_c _ _ _ _ hlenc) rfl ?_
  refine rl_nil ?_
  refine at_then ?_
  first | refine ct_dec rfl (fun h1 => ?_) (fun h1 => ?_) | refine ct_ndec rfl (fun h1 => ?_) (fun h1 => ?_) | refine ct_eq rfl (fun h1 => ?_) (fun h1 => ?_) | refine ct_ne rfl (fun h1 => ?_) (fun h1 => ?_) | refine ct_not rfl (fun h1 => ?_) (fun h1 => ?_) | refine ct_cond rfl (fun h1 => ?_) (fun h1 => ?_)
  ·
    skip
    refine ct_seq ?_
    refine ct_reg ?_
    refine rl_val gw_none (ov_assign rfl) rfl ?_
    refine rl_nil ?_
    refine at_then ?_
    refine ct_ret ?_
    refine at_then_ret ?_
    refine at_ret1 Try.results5 (ro_tmp rfl) (fun w1 hp => ?_)
    refine ⟨?_, hp.ext0⟩
    first | rfl | (simp; done) | (simp [staysB]; done)
  ·
    refine ct_skip ?_
    refine at_then ?_
    refine ct_seq ?_
    refine ct_reg ?_
    refine rl_val gw_none (ov_move rfl) rfl ?_
    refine rl_calle (ι := (Option Nat × Nat × List Value × List Road) × (Option Nat × Nat × List Value × List Stay) × (Option Nat × Nat × List Value × List Int)) (fun q => .tuple #[sv q.1.1 q.1.2.2.2.length q.1.2.1, sv q.2.1.1 q.2.1.2.2.2.length q.2.1.2.1, sv q.2.2.1 q.2.2.2.2.2.length q.2.2.2.1]) (fun q => [(q.1.1, 65, flat encRoad q.1.2.2.2 ++ q.1.2.2.1), (q.2.1.1, 44, flat encStay q.2.1.2.2.2 ++ q.2.1.2.2.1), (q.2.2.1, 3, ints q.2.2.2.2.2 ++ q.2.2.2.2.1)]) (fun q => (Sl 3 q.1.1 q.1.2.2.2.length q.1.2.1 (flat encRoad q.1.2.2.2) q.1.2.2.1 ∧ q.1.2.2.2.length ≤ 70 ∧ (∀ y ∈ q.1.2.2.2, GRoad y)) ∧ (Sl 3 q.2.1.1 q.2.1.2.2.2.length q.2.1.2.1 (flat encStay q.2.1.2.2.2) q.2.1.2.2.1 ∧ q.2.1.2.2.2.length ≤ 10 ∧ (∀ y ∈ q.2.1.2.2.2, GStay y)) ∧ (Sl 1 q.2.2.1 q.2.2.2.2.2.length q.2.2.2.1 (ints q.2.2.2.2.2) q.2.2.2.2.1 ∧ q.2.2.2.2.2.length ≤ 20)) goes18 rfl (fun w1 hp => DrawDaysOf_c _ _ _ _ (hcd.call hp (E := []) (by simp))) rfl (fun qd hqd => ?_)
    obtain ⟨⟨br, cr, pr, xs⟩, ⟨bst, cst, pst, st⟩, ⟨bod, cod, pod, od⟩⟩ := qd
    obtain ⟨⟨hslr, hr, hGr⟩, ⟨hsly, hy, hGy⟩, ⟨hslo, ho⟩⟩ := hqd
    dsimp only at hslr hr hGr hsly hy hGy hslo ho
    try dsimp only
    refine rl_val gw_none (ov_move rfl) rfl ?_
    refine rl_val gw_none (ov_extract rfl rfl) rfl ?_
    refine rl_val gw_none (ov_extract rfl rfl) rfl ?_
    refine rl_val gw_none (ov_extract rfl rfl) rfl ?_
    refine rl_val gw_none (ov_assign rfl) rfl ?_
    refine rl_val gw_none (ov_assign rfl) rfl ?_
    refine rl_val gw_none (ov_assign rfl) rfl ?_
    refine rl_nil ?_
    refine at_then ?_
    refine ct_seq ?_
    refine ct_reg ?_
    refine rl_val gw_none (ov_move rfl) rfl ?_
    refine rl_val gw_none (ov_move rfl) rfl ?_
    refine rl_val gw_none (ov_move rfl) rfl ?_
    refine rl_callv gw_none goes19 rfl (fun w1 hp => iDaysOf_c xs st od _ _ _ _ hGr (hp.slsr 0 rfl hslr) hGy (hp.slsr 1 rfl hsly) (hp.slsr 2 rfl hslo)) rfl ?_
    refine rl_val gw_none (ov_move rfl) rfl ?_
    refine rl_val gw_none (ov_extract rfl rfl) rfl ?_
    refine rl_val gw_none (ov_extract rfl rfl) rfl ?_
    refine rl_val gw_none (ov_assign rfl) rfl ?_
    refine rl_val gw_none (ov_assign rfl) rfl ?_
    refine rl_nil ?_
    refine at_then ?_
    refine ct_seq ?_
    refine ct_seq ?_
    refine ct_reg ?_
    refine rl_val gw_none (ov_move rfl) rfl ?_
    refine rl_val gw_none (ov_move rfl) rfl ?_
    refine rl_val gw_none (ov_move rfl) rfl ?_
    refine rl_callv gw_none goes20 rfl (fun w1 hp => sDaysOf_c xs st od _ _ _ _ hGr (hp.slsr 0 rfl hslr) hGy (hp.slsr 1 rfl hsly) (hp.slsr 2 rfl hslo)) rfl ?_
    refine rl_val gw_none (ov_move rfl) rfl ?_
    refine rl_val gw_none (ov_extract rfl rfl) rfl ?_
    refine rl_val gw_none (ov_extract rfl rfl) rfl ?_
    refine rl_val gw_none (ov_assign rfl) rfl ?_
    refine rl_val gw_none (ov_assign rfl) rfl ?_
    refine rl_nil ?_
    refine at_then ?_
    refine ct_seq ?_
    refine ct_reg ?_
    refine rl_val gw_none (ov_move rfl) rfl ?_
    refine rl_val gw_none (ov_move rfl) rfl ?_
    refine rl_val gw_none (ov_neq rfl rfl) rfl ?_
    refine rl_val gw_none (ov_move rfl) rfl ?_
    refine rl_split (t := 56) rfl (fun g1 => ?_) (fun g1 => ?_)
    ·
      exfalso; first | (simp at g1; omega) | (simp at g1; done) | (simp_all; done)
    ·
      refine rl_val (gw_some rfl rfl g1) (ov_move rfl) rfl ?_
      refine rl_val (gw_some rfl rfl g1) (ov_move rfl) rfl ?_
      refine rl_val (gw_some rfl rfl g1) (ov_neb Try.underlying4 rfl rfl) rfl ?_
      refine rl_val gw_none (ov_pick_f rfl g1 rfl) rfl ?_
      refine rl_nil ?_
      refine at_then ?_
      first | refine ct_dec rfl (fun h2 => ?_) (fun h2 => ?_) | refine ct_ndec rfl (fun h2 => ?_) (fun h2 => ?_) | refine ct_eq rfl (fun h2 => ?_) (fun h2 => ?_) | refine ct_ne rfl (fun h2 => ?_) (fun h2 => ?_) | refine ct_not rfl (fun h2 => ?_) (fun h2 => ?_) | refine ct_cond rfl (fun h2 => ?_) (fun h2 => ?_)
      ·
        exfalso; first | omega | exact absurd rfl h2 | (simp at h2; done) | (simp_all; done)
      ·
        refine ct_skip ?_
        refine at_then ?_
        refine ct_seq ?_
        refine ct_reg ?_
        refine rl_val gw_none (ov_move rfl) rfl ?_
        refine rl_val gw_none (ov_move rfl) rfl ?_
        refine rl_callv gw_none goes12 rfl (fun w1 hp => iFewestDays_c xs st _ _ _ hGr (hp.slsr 0 rfl hslr) hGy (hp.slsr 1 rfl hsly)) rfl ?_
        refine rl_val gw_none (ov_move rfl) rfl ?_
        refine rl_val gw_none (ov_extract rfl rfl) rfl ?_
        refine rl_val gw_none (ov_extract rfl rfl) rfl ?_
        refine rl_val gw_none (ov_assign rfl) rfl ?_
        refine rl_val gw_none (ov_assign rfl) rfl ?_
        refine rl_nil ?_
        refine at_then ?_
        refine ct_seq ?_
        refine ct_seq ?_
        refine ct_reg ?_
        refine rl_val gw_none (ov_move rfl) rfl ?_
        refine rl_val gw_none (ov_move rfl) rfl ?_
        refine rl_callv gw_none goes9 rfl (fun w1 hp => sFewestDays_c xs st _ _ _ hGr (hp.slsr 0 rfl hslr) hGy (hp.slsr 1 rfl hsly)) rfl ?_
        refine rl_val gw_none (ov_move rfl) rfl ?_
        refine rl_val gw_none (ov_extract rfl rfl) rfl ?_
        refine rl_val gw_none (ov_extract rfl rfl) rfl ?_
        refine rl_val gw_none (ov_assign rfl) rfl ?_
        refine rl_val gw_none (ov_assign rfl) rfl ?_
        refine rl_nil ?_
        refine at_then ?_
        refine ct_seq ?_
        refine ct_reg ?_
        refine rl_val gw_none (ov_move rfl) rfl ?_
        refine rl_val gw_none (ov_move rfl) rfl ?_
        refine rl_val gw_none (ov_neq rfl rfl) rfl ?_
        refine rl_val gw_none (ov_move rfl) rfl ?_
        refine rl_split (t := 76) rfl (fun g2 => ?_) (fun g2 => ?_)
        ·
          exfalso; first | (simp at g2; omega) | (simp at g2; done) | (simp_all; done)
        ·
          refine rl_val (gw_some rfl rfl g2) (ov_move rfl) rfl ?_
          refine rl_val (gw_some rfl rfl g2) (ov_move rfl) rfl ?_
          refine rl_val (gw_some rfl rfl g2) (ov_neb Try.underlying4 rfl rfl) rfl ?_
          refine rl_val gw_none (ov_pick_f rfl g2 rfl) rfl ?_
          refine rl_nil ?_
          refine at_then ?_
          first | refine ct_dec rfl (fun h3 => ?_) (fun h3 => ?_) | refine ct_ndec rfl (fun h3 => ?_) (fun h3 => ?_) | refine ct_eq rfl (fun h3 => ?_) (fun h3 => ?_) | refine ct_ne rfl (fun h3 => ?_) (fun h3 => ?_) | refine ct_not rfl (fun h3 => ?_) (fun h3 => ?_) | refine ct_cond rfl (fun h3 => ?_) (fun h3 => ?_)
          ·
            exfalso; first | omega | exact absurd rfl h3 | (simp at h3; done) | (simp_all; done)
          ·
            refine ct_skip ?_
            refine at_then ?_
            refine ct_cutS (ι := Unit) (fun _ => []) [(0, _), (3, _), (4, _), (10, _), (11, _)] _ (fun _ => True) (Sub.cons rfl (Sub.cons rfl (Sub.cons rfl (Sub.cons rfl (Sub.cons rfl Sub.nil))))) (fun _ hq => hq) ?_ (fun _ _ => ?_)
            ·
              refine ct_seq ?_
              refine ct_reg ?_
              refine rl_val gw_none (ov_move rfl) rfl ?_
              refine rl_val gw_none (ov_move rfl) rfl ?_
              refine rl_split (t := 82) rfl (fun g3 => ?_) (fun g3 => ?_)
              ·
                skip
                refine rl_val (gw_some rfl rfl g3) (ov_move rfl) rfl ?_
                refine rl_val (gw_some rfl rfl g3) (ov_len Try.underlying39 rfl) rfl ?_
                refine rl_val (gw_some rfl rfl g3) (ov_move rfl) rfl ?_
                refine rl_val (gw_some rfl rfl g3) (ov_len Try.underlying30 rfl) rfl ?_
                refine rl_val (gw_some rfl rfl g3) (ov_eql rfl rfl) rfl ?_
                refine rl_val gw_none (ov_pick_t rfl g3 rfl) rfl ?_
                refine rl_val gw_none (ov_move rfl) rfl ?_
                refine rl_split (t := 89) rfl (fun g4 => ?_) (fun g4 => ?_)
                ·
                  have hq := fd_least (l := od) g3 (by simpa using g4)
                  refine rl_val (gw_some rfl rfl g4) (ov_move rfl) rfl ?_
                  refine rl_val (gw_some rfl rfl g4) (ov_not rfl) rfl ?_
                  refine rl_val (gw_some rfl rfl g4) (ov_move rfl) rfl ?_
                  refine rl_split (t := 92) rfl (fun g5 => ?_) (fun g5 => ?_)
                  ·
                    exfalso; rw [hq.1] at g5; simp at g5
                  ·
                    skip
                    refine rl_val (gw_some rfl rfl g5) (ov_move rfl) rfl ?_
                    refine rl_val (gw_some rfl rfl g5) (ov_move rfl) rfl ?_
                    refine rl_val (gw_some rfl rfl g5) (ov_gtr rfl rfl) rfl ?_
                    refine rl_val (gw_some rfl rfl g4) (ov_pick_f rfl g5 rfl) rfl ?_
                    refine rl_val gw_none (ov_pick_t rfl g4 rfl) rfl ?_
                    refine rl_nil ?_
                    refine at_then ?_
                    first | refine ct_dec rfl (fun h4 => ?_) (fun h4 => ?_) | refine ct_ndec rfl (fun h4 => ?_) (fun h4 => ?_) | refine ct_eq rfl (fun h4 => ?_) (fun h4 => ?_) | refine ct_ne rfl (fun h4 => ?_) (fun h4 => ?_) | refine ct_not rfl (fun h4 => ?_) (fun h4 => ?_) | refine ct_cond rfl (fun h4 => ?_) (fun h4 => ?_)
                    ·
                      exfalso; have := hq.2; omega
                    ·
                      skip
                      refine ct_skip ?_
                      exact at_handR () trivial (by (repeat' (first | exact Sub.nil | refine Sub.cons ?_ ?_)); all_goals (first | rfl | exact lkInt rfl (by omega))) (Sub.cons rfl (Sub.cons rfl (Sub.cons rfl (Sub.cons rfl (Sub.cons rfl Sub.nil))))) (fun _ hq => hq)
                ·
                  skip
                  refine rl_skip (gw_not rfl rfl g4) rfl ?_
                  refine rl_skip (gw_not rfl rfl g4) rfl ?_
                  refine rl_skip (gw_not rfl rfl g4) rfl ?_
                  refine rl_skip (gw_undef rfl rfl) rfl ?_
                  refine rl_skip (gw_undef rfl rfl) rfl ?_
                  refine rl_skip (gw_undef rfl rfl) rfl ?_
                  refine rl_skip (gw_not rfl rfl g4) rfl ?_
                  refine rl_val gw_none (ov_pick_f rfl g4 rfl) rfl ?_
                  refine rl_nil ?_
                  refine at_then ?_
                  refine ct_false rfl rfl ?_
                  refine ct_skip ?_
                  exact at_handR () trivial (by (repeat' (first | exact Sub.nil | refine Sub.cons ?_ ?_)); all_goals (first | rfl | exact lkInt rfl (by omega))) (Sub.cons rfl (Sub.cons rfl (Sub.cons rfl (Sub.cons rfl (Sub.cons rfl Sub.nil))))) (fun _ hq => hq)
              ·
                skip
                refine rl_skip (gw_not rfl rfl g3) rfl ?_
                refine rl_skip (gw_not rfl rfl g3) rfl ?_
                refine rl_skip (gw_not rfl rfl g3) rfl ?_
                refine rl_skip (gw_not rfl rfl g3) rfl ?_
                refine rl_skip (gw_not rfl rfl g3) rfl ?_
                refine rl_val gw_none (ov_pick_f rfl g3 rfl) rfl ?_
                refine rl_val gw_none (ov_move rfl) rfl ?_
                refine rl_skip (gw_not rfl rfl rfl) rfl ?_
                refine rl_skip (gw_not rfl rfl rfl) rfl ?_
                refine rl_skip (gw_not rfl rfl rfl) rfl ?_
                refine rl_skip (gw_undef rfl rfl) rfl ?_
                refine rl_skip (gw_undef rfl rfl) rfl ?_
                refine rl_skip (gw_undef rfl rfl) rfl ?_
                refine rl_skip (gw_not rfl rfl rfl) rfl ?_
                refine rl_val gw_none (ov_pick_f rfl rfl rfl) rfl ?_
                refine rl_nil ?_
                refine at_then ?_
                refine ct_false rfl rfl ?_
                refine ct_skip ?_
                exact at_handR () trivial (by (repeat' (first | exact Sub.nil | refine Sub.cons ?_ ?_)); all_goals (first | rfl | exact lkInt rfl (by omega))) (Sub.cons rfl (Sub.cons rfl (Sub.cons rfl (Sub.cons rfl (Sub.cons rfl Sub.nil))))) (fun _ hq => hq)
            ·
              refine ct_cutS (ι := Unit) (fun _ => []) [(0, _), (3, _), (4, _)] _ (fun _ => True) (Sub.cons rfl (Sub.cons rfl (Sub.cons rfl Sub.nil))) (fun _ hq => hq) ?_ (fun _ _ => ?_)
              ·
                refine ct_seq ?_
                refine ct_reg ?_
                refine rl_val gw_none (ov_move rfl) rfl ?_
                refine rl_val gw_none (ov_move rfl) rfl ?_
                refine rl_val gw_none (ov_move rfl) rfl ?_
                refine rl_callv gw_none goes16 rfl (fun w1 hp => iBestTour_c xs st (fdR xs st) _ _ _ hGr (hp.slsr 0 rfl hslr) hGy (hp.slsr 1 rfl hsly) fdR_bd) rfl ?_
                refine rl_val gw_none (ov_move rfl) rfl ?_
                refine rl_val gw_none (ov_extract rfl rfl) rfl ?_
                refine rl_val gw_none (ov_extract rfl rfl) rfl ?_
                refine rl_val gw_none (ov_assign rfl) rfl ?_
                refine rl_val gw_none (ov_assign rfl) rfl ?_
                refine rl_nil ?_
                refine at_then ?_
                refine ct_seq ?_
                refine ct_reg ?_
                refine rl_val gw_none (ov_move rfl) rfl ?_
                refine rl_val gw_none (ov_move rfl) rfl ?_
                refine rl_split (t := 106) rfl (fun g6 => ?_) (fun g6 => ?_)
                ·
                  skip
                  refine rl_val (gw_some rfl rfl g6) (ov_move rfl) rfl ?_
                  refine rl_val gw_none (ov_pick_t rfl g6 rfl) rfl ?_
                  refine rl_nil ?_
                  refine at_then ?_
                  first | refine ct_dec rfl (fun h5 => ?_) (fun h5 => ?_) | refine ct_ndec rfl (fun h5 => ?_) (fun h5 => ?_) | refine ct_eq rfl (fun h5 => ?_) (fun h5 => ?_) | refine ct_ne rfl (fun h5 => ?_) (fun h5 => ?_) | refine ct_not rfl (fun h5 => ?_) (fun h5 => ?_) | refine ct_cond rfl (fun h5 => ?_) (fun h5 => ?_)
                  ·
                    have hall := bt_all g6 h5
                    have hsB : staysB st = true := by unfold fdB at g6; simp only [Bool.and_eq_true] at g6; exact g6.1.2
                    have hst7 : st.length ≤ 7 := listB_len hsB
                    refine ct_seq ?_
                    refine ct_reg ?_
                    refine rl_val gw_none (ov_assign rfl) rfl ?_
                    refine rl_nil ?_
                    refine at_then ?_
                    refine ct_seq ?_
                    refine ct_seq ?_
                    refine ct_reg ?_
                    refine rl_val gw_none (ov_assign rfl) rfl ?_
                    refine rl_nil ?_
                    refine at_then ?_
                    refine ct_block ?_
                    refine ct_loopR (ι := Nat) (fun k => [(16, .int .i64 (feeT st k)), (17, .int .i64 k)]) [(0, _), (3, _), (4, _), (14, _)] (fun _ => _) (fun k => k ≤ st.length) (fun k => st.length - k) (0) (Sub.cons rfl (Sub.cons rfl (Sub.cons rfl (Sub.cons rfl Sub.nil)))) (fun _ hq => hq) (by (repeat' (first | exact Sub.nil | refine Sub.cons ?_ ?_)); all_goals (first | rfl | exact lkInt rfl (by omega))) (by first | exact True.intro | omega | (dsimp only; omega) | (dsimp only at *; omega)) (fun k hk => ?_)
                    refine ct_seq ?_
                    refine ct_seq ?_
                    refine ct_reg ?_
                    refine rl_val gw_none (ov_move rfl) rfl ?_
                    refine rl_val gw_none (ov_move rfl) rfl ?_
                    refine rl_val gw_none (ov_len Try.underlying30 rfl) rfl ?_
                    refine rl_val gw_none (ov_lss rfl rfl) rfl ?_
                    refine rl_nil ?_
                    refine at_then ?_
                    first | refine ct_dec rfl (fun h6 => ?_) (fun h6 => ?_) | refine ct_ndec rfl (fun h6 => ?_) (fun h6 => ?_) | refine ct_eq rfl (fun h6 => ?_) (fun h6 => ?_) | refine ct_ne rfl (fun h6 => ?_) (fun h6 => ?_) | refine ct_not rfl (fun h6 => ?_) (fun h6 => ?_) | refine ct_cond rfl (fun h6 => ?_) (fun h6 => ?_)
                    ·
                      have hk2 : k < st.length := by omega
                      obtain ⟨bs9, rfl⟩ := slSome hsly (by omega)
                      have hx := getLt hk2
                      have hxi : st[((k : Nat) : Int).toNat]? = some st[k] := by rw [Int.toNat_natCast]; exact hx
                      generalize st[k] = x at hx hxi
                      have hfe := fe_eq hxi
                      have hft := feeT_bd hsB k
                      have hxb := stay_at hsB hx
                      refine ct_skip ?_
                      refine at_then ?_
                      refine ct_seq ?_
                      refine ct_block ?_
                      refine ct_reg ?_
                      refine rl_val gw_none (ov_move rfl) rfl ?_
                      refine rl_val gw_none (ov_move rfl) rfl ?_
                      refine rl_val gw_none (ov_move rfl) rfl ?_
                      first | refine rl_val gw_none (ov_ix Try.underlying30 sz44 rfl rfl _ rfl (by omega)) rfl ?_ | refine rl_val gw_none (ov_ix Try.underlying30 sz44 rfl rfl (k) (by omega) (by omega)) rfl ?_
                      refine rl_val gw_none (ov_field fo44_2 rfl) rfl ?_
                      refine rl_val gw_none (ov_load 1 sc3 rfl rfl (flatGetG encStay_len hx (f := 2) rfl _)) rfl ?_
                      refine rl_val gw_none (ov_add rfl rfl (by omega)) rfl ?_
                      refine rl_val gw_none (ov_assign rfl) rfl ?_
                      refine rl_nil ?_
                      refine at_block ?_
                      refine at_then ?_
                      refine ct_reg ?_
                      refine rl_val gw_none (ov_move rfl) rfl ?_
                      refine rl_val gw_none (ov_add rfl rfl (by omega)) rfl ?_
                      refine rl_val gw_none (ov_assign rfl) rfl ?_
                      refine rl_nil ?_
                      exact at_backR (k + 1) (by first | exact True.intro | omega | (dsimp only; omega) | (dsimp only at *; omega)) (by first | exact True.intro | omega | (dsimp only; omega) | (dsimp only at *; omega)) (by rw [feeT_succ]; (repeat' (first | exact Sub.nil | refine Sub.cons ?_ ?_)); all_goals (first | rfl | exact lkInt rfl (by omega) | exact lkInt rfl (by rw [hfe]))) (Sub.cons rfl (Sub.cons rfl (Sub.cons rfl (Sub.cons rfl Sub.nil)))) (fun _ hq => hq)
                    ·
                      have hke : k = st.length := by omega
                      subst hke
                      refine ct_exit ?_
                      refine at_then_exit ?_
                      refine at_then_exit ?_
                      refine at_block_hit ?_
                      refine at_then ?_
                      refine ct_seq ?_
                      refine ct_reg ?_
                      refine rl_val gw_none (ov_move rfl) rfl ?_
                      refine rl_val gw_none (ov_move rfl) rfl ?_
                      refine rl_val gw_none (ov_neq rfl rfl) rfl ?_
                      refine rl_nil ?_
                      refine at_then ?_
                      first | refine ct_dec rfl (fun h7 => ?_) (fun h7 => ?_) | refine ct_ndec rfl (fun h7 => ?_) (fun h7 => ?_) | refine ct_eq rfl (fun h7 => ?_) (fun h7 => ?_) | refine ct_ne rfl (fun h7 => ?_) (fun h7 => ?_) | refine ct_not rfl (fun h7 => ?_) (fun h7 => ?_) | refine ct_cond rfl (fun h7 => ?_) (fun h7 => ?_)
                      ·
                        exfalso; omega
                      ·
                        skip
                        refine ct_skip ?_
                        exact at_handR () trivial (by (repeat' (first | exact Sub.nil | refine Sub.cons ?_ ?_)); all_goals (first | rfl | exact lkInt rfl (by omega))) (Sub.cons rfl (Sub.cons rfl (Sub.cons rfl Sub.nil))) (fun _ hq => hq)
                  ·
                    skip
                    refine ct_skip ?_
                    exact at_handR () trivial (by (repeat' (first | exact Sub.nil | refine Sub.cons ?_ ?_)); all_goals (first | rfl | exact lkInt rfl (by omega))) (Sub.cons rfl (Sub.cons rfl (Sub.cons rfl Sub.nil))) (fun _ hq => hq)
                ·
                  skip
                  refine rl_skip (gw_not rfl rfl g6) rfl ?_
                  refine rl_val gw_none (ov_pick_f rfl g6 rfl) rfl ?_
                  refine rl_nil ?_
                  refine at_then ?_
                  refine ct_false rfl rfl ?_
                  refine ct_skip ?_
                  exact at_handR () trivial (by (repeat' (first | exact Sub.nil | refine Sub.cons ?_ ?_)); all_goals (first | rfl | exact lkInt rfl (by omega))) (Sub.cons rfl (Sub.cons rfl (Sub.cons rfl Sub.nil))) (fun _ hq => hq)
              ·
                refine ct_seq ?_
                refine ct_reg ?_
                refine rl_val gw_none (ov_move rfl) rfl ?_
                refine rl_val gw_none (ov_move rfl) rfl ?_
                refine rl_callsl (ι := Nat × List Value) (fun i bo => .tuple #[sv bo (nsR xs st).length i.1, .bool (nsOk xs st)]) (fun i => ints (nsR xs st) ++ i.2) (fun i bo => Sl 1 bo (nsR xs st).length i.1 (ints (nsR xs st)) i.2) goes21 rfl (fun w1 hp => iNearestStays_c xs st _ _ _ hGr (hp.slsr 0 rfl hslr) hGy (hp.slsr 1 rfl hsly)) rfl (fun iN1 boN1 hsN1 => ?_)
                refine rl_val gw_none (ov_move rfl) rfl ?_
                refine rl_val gw_none (ov_extract rfl rfl) rfl ?_
                refine rl_val gw_none (ov_extract rfl rfl) rfl ?_
                refine rl_val gw_none (ov_assign rfl) rfl ?_
                refine rl_val gw_none (ov_assign rfl) rfl ?_
                refine rl_nil ?_
                refine at_then ?_
                refine ct_seq ?_
                refine ct_seq ?_
                refine ct_reg ?_
                refine rl_val gw_none (ov_move rfl) rfl ?_
                refine rl_val gw_none (ov_move rfl) rfl ?_
                refine rl_callsl (ι := Nat × List Value) (fun i bo => .tuple #[sv bo (nsR xs st).length i.1, .bool (nsOk xs st)]) (fun i => ints (nsR xs st) ++ i.2) (fun i bo => Sl 1 bo (nsR xs st).length i.1 (ints (nsR xs st)) i.2) goes22 rfl (fun w1 hp => sNearestStays_c xs st _ _ _ hGr (hp.slsr 1 rfl hslr) hGy (hp.slsr 2 rfl hsly)) rfl (fun iN2 boN2 hsN2 => ?_)
                refine rl_val gw_none (ov_move rfl) rfl ?_
                refine rl_val gw_none (ov_extract rfl rfl) rfl ?_
                refine rl_val gw_none (ov_extract rfl rfl) rfl ?_
                refine rl_val gw_none (ov_assign rfl) rfl ?_
                refine rl_val gw_none (ov_assign rfl) rfl ?_
                refine rl_nil ?_
                refine at_then ?_
                refine ct_seq ?_
                refine ct_reg ?_
                refine rl_val gw_none (ov_move rfl) rfl ?_
                refine rl_val gw_none (ov_move rfl) rfl ?_
                refine rl_val gw_none (ov_neb Try.underlying4 rfl rfl) rfl ?_
                refine rl_val gw_none (ov_move rfl) rfl ?_
                refine rl_split (t := 140) rfl (fun g7 => ?_) (fun g7 => ?_)
                ·
                  exfalso; first | (simp at g7; omega) | (simp at g7; done) | (simp_all; done)
                ·
                  refine rl_val (gw_some rfl rfl g7) (ov_move rfl) rfl ?_
                  refine rl_val (gw_some rfl rfl g7) (ov_move rfl) rfl ?_
                  refine rl_callv (gw_some rfl rfl g7) goes23 rfl (fun w1 hp => rInts_c _ _ _ _ (hp.slsr 1 rfl hsN1) (hp.slsr 0 rfl hsN2)) rfl ?_
                  refine rl_val (gw_some rfl rfl g7) (ov_not rfl) rfl ?_
                  refine rl_val gw_none (ov_pick_f rfl g7 rfl) rfl ?_
                  refine rl_nil ?_
                  refine at_then ?_
                  refine ct_false rfl rfl ?_
                  refine ct_skip ?_
                  refine at_then ?_
                  refine ct_cutS (ι := Unit) (fun _ => []) [(0, _)] _ (fun _ => True) (Sub.cons rfl Sub.nil) (fun _ hq => hq) ?_ (fun _ _ => ?_)
                  ·
                    refine ct_seq ?_
                    refine ct_reg ?_
                    refine rl_val gw_none (ov_move rfl) rfl ?_
                    refine rl_val gw_none (ov_move rfl) rfl ?_
                    refine rl_val gw_none (ov_move rfl) rfl ?_
                    refine rl_callv gw_none goes19 rfl (fun w1 hp => iDaysOf_c xs st (nsR xs st) _ _ _ _ hGr (hp.slsr 2 rfl hslr) hGy (hp.slsr 3 rfl hsly) (hp.slsr 1 rfl hsN1)) rfl ?_
                    refine rl_val gw_none (ov_move rfl) rfl ?_
                    refine rl_val gw_none (ov_extract rfl rfl) rfl ?_
                    refine rl_val gw_none (ov_extract rfl rfl) rfl ?_
                    refine rl_val gw_none (ov_assign rfl) rfl ?_
                    refine rl_val gw_none (ov_assign rfl) rfl ?_
                    refine rl_nil ?_
                    refine at_then ?_
                    refine ct_seq ?_
                    refine ct_reg ?_
                    refine rl_val gw_none (ov_move rfl) rfl ?_
                    refine rl_val gw_none (ov_move rfl) rfl ?_
                    refine rl_split (t := 154) rfl (fun g8 => ?_) (fun g8 => ?_)
                    ·
                      have hns := ns_held g8
                      refine rl_val (gw_some rfl rfl g8) (ov_move rfl) rfl ?_
                      refine rl_val (gw_some rfl rfl g8) (ov_not rfl) rfl ?_
                      refine rl_val gw_none (ov_pick_t rfl g8 rfl) rfl ?_
                      refine rl_nil ?_
                      refine at_then ?_
                      first | refine ct_dec rfl (fun h8 => ?_) (fun h8 => ?_) | refine ct_ndec rfl (fun h8 => ?_) (fun h8 => ?_) | refine ct_eq rfl (fun h8 => ?_) (fun h8 => ?_) | refine ct_ne rfl (fun h8 => ?_) (fun h8 => ?_) | refine ct_not rfl (fun h8 => ?_) (fun h8 => ?_) | refine ct_cond rfl (fun h8 => ?_) (fun h8 => ?_)
                      ·
                        exfalso; rw [hns] at h8; simp at h8
                      ·
                        skip
                        refine ct_skip ?_
                        exact at_handR () trivial (by (repeat' (first | exact Sub.nil | refine Sub.cons ?_ ?_)); all_goals (first | rfl | exact lkInt rfl (by omega))) (Sub.cons rfl Sub.nil) (fun _ hq => hq)
                    ·
                      skip
                      refine rl_skip (gw_not rfl rfl g8) rfl ?_
                      refine rl_skip (gw_not rfl rfl g8) rfl ?_
                      refine rl_val gw_none (ov_pick_f rfl g8 rfl) rfl ?_
                      refine rl_nil ?_
                      refine at_then ?_
                      refine ct_false rfl rfl ?_
                      refine ct_skip ?_
                      exact at_handR () trivial (by (repeat' (first | exact Sub.nil | refine Sub.cons ?_ ?_)); all_goals (first | rfl | exact lkInt rfl (by omega))) (Sub.cons rfl Sub.nil) (fun _ hq => hq)
                  ·
                    refine ct_seq ?_
                    refine ct_reg ?_
                    refine rl_val gw_none (ov_move rfl) rfl ?_
                    refine rl_calle (ι := (Option Nat × Nat × List Value × List Road) × (Option Nat × Nat × List Value × List Stay) × Int) (fun q => .tuple #[sv q.1.1 q.1.2.2.2.length q.1.2.1, sv q.2.1.1 q.2.1.2.2.2.length q.2.1.2.1, .int .i64 q.2.2]) (fun q => [(q.1.1, 65, flat encRoad q.1.2.2.2 ++ q.1.2.2.1), (q.2.1.1, 44, flat encStay q.2.1.2.2.2 ++ q.2.1.2.2.1)]) (fun q => (Sl 3 q.1.1 q.1.2.2.2.length q.1.2.1 (flat encRoad q.1.2.2.2) q.1.2.2.1 ∧ q.1.2.2.2.length ≤ 70 ∧ (∀ y ∈ q.1.2.2.2, GRoad y)) ∧ (Sl 3 q.2.1.1 q.2.1.2.2.2.length q.2.1.2.1 (flat encStay q.2.1.2.2.2) q.2.1.2.2.1 ∧ q.2.1.2.2.2.length ≤ 10 ∧ (∀ y ∈ q.2.1.2.2.2, GStay y)) ∧ In64 q.2.2) goes24 rfl (fun w1 hp => DrawBestTour_c _ _ _ _ (hcd.call hp (E := []) (by simp))) rfl (fun qe hqe => ?_)
                    obtain ⟨⟨br2, cr2, pr2, xs2⟩, ⟨bst2, cst2, pst2, st2⟩, dd⟩ := qe
                    obtain ⟨⟨hslr2, hr2, hGr2⟩, ⟨hsly2, hy2, hGy2⟩, zdd⟩ := hqe
                    dsimp only at hslr2 hr2 hGr2 hsly2 hy2 hGy2 zdd
                    try dsimp only
                    refine rl_val gw_none (ov_move rfl) rfl ?_
                    refine rl_val gw_none (ov_extract rfl rfl) rfl ?_
                    refine rl_val gw_none (ov_extract rfl rfl) rfl ?_
                    refine rl_val gw_none (ov_extract rfl rfl) rfl ?_
                    refine rl_val gw_none (ov_assign rfl) rfl ?_
                    refine rl_val gw_none (ov_assign rfl) rfl ?_
                    refine rl_val gw_none (ov_assign rfl) rfl ?_
                    refine rl_nil ?_
                    refine at_then ?_
                    refine ct_seq ?_
                    refine ct_reg ?_
                    refine rl_val gw_none (ov_move rfl) rfl ?_
                    refine rl_val gw_none (ov_move rfl) rfl ?_
                    refine rl_val gw_none (ov_move rfl) rfl ?_
                    refine rl_callv gw_none goes16 rfl (fun w1 hp => iBestTour_c xs2 st2 dd _ _ _ hGr2 (hp.slsr 0 rfl hslr2) hGy2 (hp.slsr 1 rfl hsly2) zdd) rfl ?_
                    refine rl_val gw_none (ov_move rfl) rfl ?_
                    refine rl_val gw_none (ov_extract rfl rfl) rfl ?_
                    refine rl_val gw_none (ov_extract rfl rfl) rfl ?_
                    refine rl_val gw_none (ov_assign rfl) rfl ?_
                    refine rl_val gw_none (ov_assign rfl) rfl ?_
                    refine rl_nil ?_
                    refine at_then ?_
                    refine ct_seq ?_
                    refine ct_reg ?_
                    refine rl_val gw_none (ov_move rfl) rfl ?_
                    refine rl_val gw_none (ov_move rfl) rfl ?_
                    refine rl_val gw_none (ov_move rfl) rfl ?_
                    refine rl_callv gw_none goes15 rfl (fun w1 hp => sBestTour_c xs2 st2 dd _ _ _ hGr2 (hp.slsr 0 rfl hslr2) hGy2 (hp.slsr 1 rfl hsly2) zdd) rfl ?_
                    refine rl_val gw_none (ov_move rfl) rfl ?_
                    refine rl_val gw_none (ov_extract rfl rfl) rfl ?_
                    refine rl_val gw_none (ov_extract rfl rfl) rfl ?_
                    refine rl_val gw_none (ov_assign rfl) rfl ?_
                    refine rl_val gw_none (ov_assign rfl) rfl ?_
                    refine rl_nil ?_
                    refine at_then ?_
                    refine ct_seq ?_
                    refine ct_reg ?_
                    refine rl_val gw_none (ov_move rfl) rfl ?_
                    refine rl_val gw_none (ov_move rfl) rfl ?_
                    refine rl_val gw_none (ov_eql rfl rfl) rfl ?_
                    refine rl_val gw_none (ov_move rfl) rfl ?_
                    refine rl_split (t := 181) rfl (fun g9 => ?_) (fun g9 => ?_)
                    ·
                      skip
                      refine rl_val (gw_some rfl rfl g9) (ov_move rfl) rfl ?_
                      refine rl_val (gw_some rfl rfl g9) (ov_move rfl) rfl ?_
                      refine rl_val (gw_some rfl rfl g9) (ov_eqb Try.underlying4 rfl rfl) rfl ?_
                      refine rl_val gw_none (ov_pick_t rfl g9 rfl) rfl ?_
                      refine rl_val gw_none (ov_move rfl) rfl ?_
                      refine rl_split (t := 186) rfl (fun g10 => ?_) (fun g10 => ?_)
                      ·
                        skip
                        refine rl_val (gw_some rfl rfl g10) (ov_move rfl) rfl ?_
                        refine rl_callv (gw_some rfl rfl g10) goes25 rfl (fun w1 hp => iAreStays_c st2 _ _ (hp.slsr 1 rfl hsly2)) rfl ?_
                        refine rl_val (gw_some rfl rfl g10) (ov_move rfl) rfl ?_
                        refine rl_callv (gw_some rfl rfl g10) goes26 rfl (fun w1 hp => sAreStays_c st2 _ _ (hp.slsr 1 rfl hsly2)) rfl ?_
                        refine rl_val (gw_some rfl rfl g10) (ov_eqb Try.underlying4 rfl rfl) rfl ?_
                        refine rl_val gw_none (ov_pick_t rfl g10 rfl) rfl ?_
                        refine rl_val gw_none (ov_assign rfl) rfl ?_
                        refine rl_nil ?_
                        refine at_then ?_
                        refine ct_ret ?_
                        refine at_ret1 Try.results5 (ro_tmp rfl) (fun w1 hp => ?_)
                        refine ⟨?_, hp.ext0⟩
                        first | rfl | (simp; done) | (simp [staysB]; done)
                      ·
                        exfalso; simp at g10
                    ·
                      exfalso; simp at g9
end Go.Proofs.Ytgnnlgmeagipjaa
