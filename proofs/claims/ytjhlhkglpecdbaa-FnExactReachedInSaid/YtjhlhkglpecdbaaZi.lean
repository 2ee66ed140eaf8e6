import Derived.Test.YtjhlhkglpecdbaaZh
import Derived.KernelRfl
set_option linter.unusedVariables false
set_option linter.unusedSimpArgs false
namespace Go.Proofs.Ytjhlhkglpecdbaa
open Go Go.RowKit K
theorem l13Reach_s (d : Nat) (ih : ReachP d) (u : Int) (l : Int) (xs : List IntA2) (vxs : Value) (w : World) (zu : In64 u) (zl : In64 l) (hGxs : ∀ y ∈ xs, GIntA2 y) (hsxs : SR w 2 vxs xs.length (flat encIntA2 xs)) (k : Nat) (i m : Int) (hi : i = k) (hkd : k + (d + 1) = xs.length) (hf : frameB u l xs = true) (hl2 : xs.length ≤ 2) (hm : 0 ≤ m ∧ m ≤ 10) : Calls Try.prog 16 ([.agg (List.toArray (α := Value) [.int .i64 u, .int .i64 l, vxs]), .int .i64 i, .int .i64 m]).toArray w (fun e w' => RetSl 3 1 (ints (reachS u l (d + 1) xs k m)) (reachS u l (d + 1) xs k m).length (fun s => s) w e w') := by
  subst hi
  obtain ⟨axs, capxs, rfl, hcapxs, hmaxxs⟩ := hsxs.slice
  have hlenxs := hsxs.len_le
  obtain ⟨hu, hl, hxl⟩ := frameB_ul hf
  have h8 : xs.length ≤ 8 := by omega
  have hkl : k < xs.length := by omega
  have hd1 : d ≤ 1 := by omega
  have hk2 := hkl
  obtain ⟨b, o, rfl, hel⟩ := hsxs.elem encIntA2_len (by omega) hk2
  have hx := getLt hk2
  generalize xs[k] = r at *
  have hcx := hel k r hx
  obtain ⟨c0, c1, _⟩ := hel k r hx
  have hro := rodAt_eq hx
  refine calls_ct Try.func16 Try.ntmps16 rfl rfl ?_
  refine ct_seq ?_
  refine ct_reg ?_
  refine rl_box rfl rfl (fun N1 => ?_)
  refine rl_val gw_none (ov_assign rfl) rfl ?_
  refine rl_nil ?_
  refine at_then ?_
  refine ct_seq ?_
  refine ct_seq ?_
  refine ct_reg ?_
  refine rl_val gw_none (ov_move rfl) rfl ?_
  refine rl_val gw_none (ov_field fo29_2 rfl) rfl ?_
  first | refine rl_val gw_none (ov_load 0 sc22 rfl rfl rfl) rfl ?_ | refine rl_val gw_none (ov_load 0 sc22 rfl rfl (by assumption)) rfl ?_
  refine rl_val gw_none (ov_len Try.underlying22 rfl) rfl ?_
  refine rl_val gw_none (ov_eql rfl rfl) rfl ?_
  refine rl_nil ?_
  refine at_then ?_
  first | refine ct_dec rfl (fun h1 => ?_) (fun h1 => ?_) | refine ct_ndec rfl (fun h1 => ?_) (fun h1 => ?_) | refine ct_eq rfl (fun h1 => ?_) (fun h1 => ?_) | refine ct_ne rfl (fun h1 => ?_) (fun h1 => ?_) | refine ct_not rfl (fun h1 => ?_) (fun h1 => ?_) | refine ct_cond rfl (fun h1 => ?_) (fun h1 => ?_)
  ·
    omega
  ·
    refine ct_skip ?_
    refine at_then ?_
    refine ct_seq ?_
    refine ct_reg ?_
    refine rl_bslice Try.underlying26 ze3 sz3 rfl rfl rfl rfl rfl rfl (fun N2 => ?_)
    refine rl_val gw_none (ov_assign rfl) rfl ?_
    refine rl_nil ?_
    refine at_then ?_
    refine ct_seq ?_
    refine ct_seq ?_
    refine ct_reg ?_
    refine rl_val gw_none (ov_assign rfl) rfl ?_
    refine rl_nil ?_
    refine at_then ?_
    refine ct_block ?_
    refine ct_loopR (ι := Nat × Option Nat × Nat × List Value) (fun p0 => [(7, sv p0.2.1 (stA u l d xs k m p0.1).length p0.2.2.1), (8, .int .i64 p0.1)]) [(1, _), (2, _), (3, _), (6, _)] (fun p0 => [(p0.2.1, 3, ints (stA u l d xs k m p0.1) ++ p0.2.2.2), _]) (fun p0 => (p0.1 : Int) ≤ u + 1 ∧ outB (stA u l d xs k m p0.1) ∧ Sl 1 p0.2.1 (stA u l d xs k m p0.1).length p0.2.2.1 (ints (stA u l d xs k m p0.1)) p0.2.2.2) (fun p0 => (u + 1).toNat - p0.1) ((0, some N2, 0, [])) (Sub.cons rfl (Sub.cons rfl (Sub.cons rfl (Sub.cons rfl Sub.nil)))) (fun _ hp => ((Hp.sub (Hp.pull (Hp.pull hp 1 rfl) 1 rfl) (List.sublist_append_left [_, _] _))).cong rfl) (by (repeat' (first | exact Sub.nil | refine Sub.cons ?_ ?_)); all_goals (first | rfl | exact lkInt rfl (by omega))) ⟨by dsimp only; omega, ⟨List.Pairwise.nil, fun x hx => by cases hx⟩, Sl.lit rfl (Nat.zero_le _)⟩ (fun p0 hp0 => ?_)
    obtain ⟨a, bo0, cap0, pad0⟩ := p0
    obtain ⟨hr0, hob0, hsl0⟩ := hp0
    dsimp only at hr0 hob0 hsl0
    try dsimp only
    have hle0 := hob0.len
    refine ct_seq ?_
    refine ct_seq ?_
    refine ct_reg ?_
    refine rl_val gw_none (ov_move rfl) rfl ?_
    refine rl_val gw_none (ov_field fo29_0 rfl) rfl ?_
    first | refine rl_val gw_none (ov_load 1 sc3 rfl rfl rfl) rfl ?_ | refine rl_val gw_none (ov_load 1 sc3 rfl rfl (by assumption)) rfl ?_
    refine rl_val gw_none (ov_leq rfl rfl) rfl ?_
    refine rl_nil ?_
    refine at_then ?_
    first | refine ct_dec rfl (fun h2 => ?_) (fun h2 => ?_) | refine ct_ndec rfl (fun h2 => ?_) (fun h2 => ?_) | refine ct_eq rfl (fun h2 => ?_) (fun h2 => ?_) | refine ct_ne rfl (fun h2 => ?_) (fun h2 => ?_) | refine ct_not rfl (fun h2 => ?_) (fun h2 => ?_) | refine ct_cond rfl (fun h2 => ?_) (fun h2 => ?_)
    ·
      refine ct_skip ?_
      refine at_then ?_
      refine ct_seq ?_
      refine ct_block ?_
      refine ct_seq ?_
      refine ct_reg ?_
      refine rl_val gw_none (ov_assign rfl) rfl ?_
      refine rl_nil ?_
      refine at_then ?_
      refine ct_block ?_
      refine ct_loopR (ι := Nat × Option Nat × Nat × List Value) (fun p1 => [(7, sv p1.2.1 (stB u l d xs k m a p1.1).length p1.2.2.1), (9, .int .i64 p1.1)]) [(1, _), (2, _), (3, _), (6, _), (8, _)] (fun p1 => [(p1.2.1, 3, ints (stB u l d xs k m a p1.1) ++ p1.2.2.2), _]) (fun p1 => (p1.1 : Int) ≤ l + 1 ∧ outB (stB u l d xs k m a p1.1) ∧ Sl 1 p1.2.1 (stB u l d xs k m a p1.1).length p1.2.2.1 (ints (stB u l d xs k m a p1.1)) p1.2.2.2) (fun p1 => (l + 1).toNat - p1.1) ((0, bo0, cap0, pad0)) (Sub.cons rfl (Sub.cons rfl (Sub.cons rfl (Sub.cons rfl (Sub.cons rfl Sub.nil))))) (fun _ hp => ((Hp.sub (Hp.pull (Hp.pull hp 1 rfl) 1 rfl) (List.sublist_append_left [_, _] _))).cong rfl) (by (repeat' (first | exact Sub.nil | refine Sub.cons ?_ ?_)); all_goals (first | rfl | exact lkInt rfl (by omega))) ⟨by dsimp only; omega, hob0, hsl0⟩ (fun p1 hp1 => ?_)
      obtain ⟨b, bo1, cap1, pad1⟩ := p1
      obtain ⟨hr1, hob1, hsl1⟩ := hp1
      dsimp only at hr1 hob1 hsl1
      try dsimp only
      have hle1 := hob1.len
      refine ct_seq ?_
      refine ct_seq ?_
      refine ct_reg ?_
      refine rl_val gw_none (ov_move rfl) rfl ?_
      refine rl_val gw_none (ov_field fo29_1 rfl) rfl ?_
      first | refine rl_val gw_none (ov_load 1 sc3 rfl rfl rfl) rfl ?_ | refine rl_val gw_none (ov_load 1 sc3 rfl rfl (by assumption)) rfl ?_
      refine rl_val gw_none (ov_leq rfl rfl) rfl ?_
      refine rl_nil ?_
      refine at_then ?_
      first | refine ct_dec rfl (fun h3 => ?_) (fun h3 => ?_) | refine ct_ndec rfl (fun h3 => ?_) (fun h3 => ?_) | refine ct_eq rfl (fun h3 => ?_) (fun h3 => ?_) | refine ct_ne rfl (fun h3 => ?_) (fun h3 => ?_) | refine ct_not rfl (fun h3 => ?_) (fun h3 => ?_) | refine ct_cond rfl (fun h3 => ?_) (fun h3 => ?_)
      ·
        have hpt : 0 ≤ prt r a b ∧ prt r a b ≤ 2 := by unfold prt; split <;> split <;> omega
        refine ct_skip ?_
        refine at_then ?_
        refine ct_seq ?_
        refine ct_block ?_
        refine ct_seq ?_
        refine ct_reg ?_
        refine rl_val gw_none (ov_move rfl) rfl ?_
        refine rl_val gw_none (ov_field fo29_2 rfl) rfl ?_
        first | refine rl_val gw_none (ov_load 1 sc22 rfl rfl rfl) rfl ?_ | refine rl_val gw_none (ov_load 1 sc22 rfl rfl (by assumption)) rfl ?_
        refine rl_val gw_none (ov_move rfl) rfl ?_
        first | refine rl_val gw_none (ov_ix Try.underlying22 sz43 rfl rfl _ rfl (by omega)) rfl ?_ | refine rl_val gw_none (ov_ix Try.underlying22 sz43 rfl rfl (k) (by omega) (by omega)) rfl ?_ | refine rl_val gw_none (ov_ix Try.underlying22 sz43 rfl rfl (j) (by omega) (by omega)) rfl ?_
        first | refine rl_val gw_none (ov_loadaw ag43 rfl rfl (by assumption)) rfl ?_ | refine rl_val gw_none (ov_loadall 0 ag43 rfl rfl rfl) rfl ?_ | refine rl_val gw_none (ov_loadall 1 ag43 rfl rfl rfl) rfl ?_ | refine rl_val gw_none (ov_loadall 2 ag43 rfl rfl rfl) rfl ?_ | refine rl_val gw_none (ov_loadall 3 ag43 rfl rfl rfl) rfl ?_
        refine rl_val gw_none (ov_move rfl) rfl ?_
        refine rl_val gw_none (ov_move rfl) rfl ?_
        refine rl_val gw_none (ov_build rfl (bu43_0_1 _ _)) rfl ?_
        refine rl_callv gw_none goes23 rfl (fun w1 hp => l13Parts_c r a b _) rfl ?_
        refine rl_val gw_none (ov_sub rfl rfl (by omega)) rfl ?_
        refine rl_val gw_none (ov_assign rfl) rfl ?_
        refine rl_nil ?_
        refine at_then ?_
        refine ct_seq ?_
        refine ct_seq ?_
        refine ct_reg ?_
        refine rl_val gw_none (ov_move rfl) rfl ?_
        refine rl_val gw_none (ov_lss rfl rfl) rfl ?_
        refine rl_nil ?_
        refine at_then ?_
        first | refine ct_dec rfl (fun h4 => ?_) (fun h4 => ?_) | refine ct_ndec rfl (fun h4 => ?_) (fun h4 => ?_) | refine ct_eq rfl (fun h4 => ?_) (fun h4 => ?_) | refine ct_ne rfl (fun h4 => ?_) (fun h4 => ?_) | refine ct_not rfl (fun h4 => ?_) (fun h4 => ?_) | refine ct_cond rfl (fun h4 => ?_) (fun h4 => ?_)
        ·
          refine ct_exit ?_
          refine at_then_exit ?_
          refine at_block_hit ?_
          refine at_then ?_
          refine ct_reg ?_
          refine rl_val gw_none (ov_move rfl) rfl ?_
          refine rl_val gw_none (ov_add rfl rfl (by omega)) rfl ?_
          refine rl_val gw_none (ov_assign rfl) rfl ?_
          refine rl_nil ?_
          have hts := stB_skip (u := u) (l := l) (d := d) (xs := xs) (k := k) (m := m) (a := a) (b := b) (by rw [hro]; omega)
          exact at_backR (b + 1, bo1, cap1, pad1) ⟨by dsimp only; omega, by dsimp only; rw [hts]; exact hob1, by dsimp only; rw [hts]; exact hsl1⟩ (by dsimp only; omega) (by dsimp only; rw [hts]; (repeat' (first | exact Sub.nil | refine Sub.cons ?_ ?_)); all_goals (first | rfl | exact lkInt rfl (by omega))) (Sub.cons rfl (Sub.cons rfl (Sub.cons rfl (Sub.cons rfl (Sub.cons rfl Sub.nil))))) (fun _ hp => ((Hp.sub (Hp.pull (Hp.pull hp 1 rfl) 1 rfl) (List.sublist_append_left [_, _] _))).cong (by dsimp only; rw [hts]; try rfl))
        ·
          refine ct_skip ?_
          refine at_then ?_
          refine ct_seq ?_
          refine ct_reg ?_
          first | refine rl_val gw_none (ov_loadall 1 ag29 rfl rfl rfl) rfl ?_ | refine rl_val gw_none (ov_loadp 1 ag29 rfl rfl (vs := [_, _, _]) rfl rfl) rfl ?_ | refine rl_val gw_none (ov_loada 1 ag29 rfl rfl rfl (by assumption)) rfl ?_
          refine rl_val gw_none (ov_move rfl) rfl ?_
          refine rl_val gw_none (ov_add rfl rfl (by omega)) rfl ?_
          refine rl_val gw_none (ov_move rfl) rfl ?_
          refine rl_callsl (ι := Nat × List Value) (fun i bo => sv bo (reachS u l d xs (k + 1) (m - prt r a b)).length i.1) (fun i => ints (reachS u l d xs (k + 1) (m - prt r a b)) ++ i.2) (fun i bo => Sl 1 bo (reachS u l d xs (k + 1) (m - prt r a b)).length i.1 (ints (reachS u l d xs (k + 1) (m - prt r a b))) i.2) goes16 rfl (fun w1 hp => ih u l xs _ _ zu zl hGxs (hsxs.ext hp.ext0) (k + 1) _ (m - prt r a b) (by omega) (by omega) hf hl2 (by omega)) rfl (fun irs bors hsrs => ?_)
          have hrb := reachS_bd hu.2 hl.2 (show d ≤ 2 by omega) xs (k + 1) (m - prt r a b)
          have hrl := hrb.len
          refine rl_val gw_none (ov_assign rfl) rfl ?_
          refine rl_nil ?_
          refine at_then ?_
          refine ct_seq ?_
          refine ct_reg ?_
          refine rl_val gw_none (ov_assign rfl) rfl ?_
          refine rl_nil ?_
          refine at_then ?_
          refine ct_block ?_
          refine ct_loopR (ι := Nat × Option Nat × Nat × List Value) (fun p2 => [(7, sv p2.2.1 (stR u l d xs k m a b p2.1).length p2.2.2.1), (12, .int .i64 p2.1)]) [(1, _), (2, _), (3, _), (6, _), (8, _), (9, _), (11, _)] (fun p2 => [(p2.2.1, 3, ints (stR u l d xs k m a b p2.1) ++ p2.2.2.2), _, _]) (fun p2 => p2.1 ≤ (reachS u l d xs (k + 1) (m - prt r a b)).length ∧ outB (stR u l d xs k m a b p2.1) ∧ Sl 1 p2.2.1 (stR u l d xs k m a b p2.1).length p2.2.2.1 (ints (stR u l d xs k m a b p2.1)) p2.2.2.2) (fun p2 => (reachS u l d xs (k + 1) (m - prt r a b)).length - p2.1) ((0, bo1, cap1, pad1)) (Sub.cons rfl (Sub.cons rfl (Sub.cons rfl (Sub.cons rfl (Sub.cons rfl (Sub.cons rfl (Sub.cons rfl Sub.nil))))))) (fun _ hp => ((Hp.sub (Hp.pull (Hp.pull (Hp.pull hp 2 rfl) 1 rfl) 2 rfl) (List.sublist_append_left [_, _, _] _))).cong rfl) (by (repeat' (first | exact Sub.nil | refine Sub.cons ?_ ?_)); all_goals (first | rfl | exact lkInt rfl (by omega))) ⟨Nat.zero_le _, hob1, hsl1⟩ (fun p2 hp2 => ?_)
          obtain ⟨j, bo2, cap2, pad2⟩ := p2
          obtain ⟨hr2, hob2, hsl2⟩ := hp2
          dsimp only at hr2 hob2 hsl2
          try dsimp only
          have hle2 := hob2.len
          refine ct_seq ?_
          refine ct_seq ?_
          refine ct_reg ?_
          refine rl_val gw_none (ov_move rfl) rfl ?_
          refine rl_val gw_none (ov_move rfl) rfl ?_
          refine rl_val gw_none (ov_len Try.underlying26 rfl) rfl ?_
          refine rl_val gw_none (ov_lss rfl rfl) rfl ?_
          refine rl_nil ?_
          refine at_then ?_
          first | refine ct_dec rfl (fun h5 => ?_) (fun h5 => ?_) | refine ct_ndec rfl (fun h5 => ?_) (fun h5 => ?_) | refine ct_eq rfl (fun h5 => ?_) (fun h5 => ?_) | refine ct_ne rfl (fun h5 => ?_) (fun h5 => ?_) | refine ct_not rfl (fun h5 => ?_) (fun h5 => ?_) | refine ct_cond rfl (fun h5 => ?_) (fun h5 => ?_)
          ·
            have hjl : j < (reachS u l d xs (k + 1) (m - prt r a b)).length := by omega
            obtain ⟨brs, rfl⟩ := slSomeG hsrs (by omega)
            have hxj := getLt hjl
            have hxm := List.getElem_mem hjl
            generalize (reachS u l d xs (k + 1) (m - prt r a b))[j] = x at *
            have hst := stR_succ (u := u) (l := l) (d := d) (xs := xs) (k := k) (m := m) (a := a) (b := b) (by rw [hro]; exact hxj)
            have hpb := put_bd (u := u) (l := l) (d := d) (xs := xs) (k := k) (m := m) (a := a) (b := b) hu.2 hl.2 hd1 (by omega) (by omega) (by rw [hro]; exact hxm)
            have hx0 := hrb.2 x hxm
            refine ct_skip ?_
            refine at_then ?_
            refine ct_seq ?_
            refine ct_block ?_
            refine ct_seq ?_
            refine ct_dr 18 (by kernel_rfl) (by kernel_rfl) ?_
            refine ql_val gw_none (ov_move rfl) rfl ?_
            refine ql_val gw_none (ov_mul rfl rfl (by omega)) rfl ?_
            refine ql_val gw_none (ov_move rfl) rfl ?_
            refine ql_val gw_none (ov_add rfl rfl (by omega)) rfl ?_
            refine ql_val gw_none (ov_field fo29_2 rfl) rfl ?_
            first | refine ql_val gw_none (ov_load 2 sc22 rfl rfl rfl) rfl ?_ | refine ql_val gw_none (ov_load 2 sc22 rfl rfl (by assumption)) rfl ?_
            refine ql_val gw_none (ov_len Try.underlying22 rfl) rfl ?_
            refine ql_val gw_none (ov_sub rfl rfl (by omega)) rfl ?_
            refine ql_val gw_none (ov_move rfl) rfl ?_
            refine ql_val gw_none (ov_sub rfl rfl (by omega)) rfl ?_
            refine ql_callv gw_none goes24 rfl (fun w1 hp => l2Power_c _ d _ (by omega) (by omega)) rfl ?_
            refine ql_val gw_none (ov_mul rfl rfl (by omega)) rfl ?_
            refine ql_val gw_none (ov_move rfl) rfl ?_
            refine ql_val gw_none (ov_move rfl) rfl ?_
            first | refine ql_val gw_none (ov_ix Try.underlying26 sz3 rfl rfl _ rfl (by omega)) rfl ?_ | refine ql_val gw_none (ov_ix Try.underlying26 sz3 rfl rfl (k) (by omega) (by omega)) rfl ?_ | refine ql_val gw_none (ov_ix Try.underlying26 sz3 rfl rfl (j) (by omega) (by omega)) rfl ?_
            refine ql_val gw_none (ov_load 1 sc3 rfl rfl (intsAtP hxj _)) rfl ?_
            refine ql_val gw_none (ov_add rfl rfl (by omega)) rfl ?_
            refine ql_val gw_none (ov_assign rfl) rfl ?_
            refine ql_nil ?_
            refine rl_nil ?_
            refine at_then ?_
            refine ct_seq ?_
            refine ct_reg ?_
            refine rl_val gw_none (ov_move rfl) rfl ?_
            refine rl_val gw_none (ov_move rfl) rfl ?_
            refine rl_callv gw_none goes25 rfl (fun w1 hp => l1Has_c _ _ _ _ (hp.slsr 0 rfl hsl2)) rfl ?_
            refine rl_val gw_none (ov_not rfl) rfl ?_
            refine rl_nil ?_
            refine at_then ?_
            first | refine ct_dec rfl (fun h6 => ?_) (fun h6 => ?_) | refine ct_ndec rfl (fun h6 => ?_) (fun h6 => ?_) | refine ct_eq rfl (fun h6 => ?_) (fun h6 => ?_) | refine ct_ne rfl (fun h6 => ?_) (fun h6 => ?_) | refine ct_not rfl (fun h6 => ?_) (fun h6 => ?_) | refine ct_cond rfl (fun h6 => ?_) (fun h6 => ?_)
            ·
              refine ct_reg ?_
              refine rl_val gw_none (ov_move rfl) rfl ?_
              refine rl_val gw_none (ov_move rfl) rfl ?_
              refine rl_calld (ι := Option Nat × Nat × List Value) (fun i => sv i.1 (putL (stR u l d xs k m a b j) ((5 * (a : Int) + b) * p10 d + x)).length i.2.1) [_] [_, _] (fun i => [(i.1, 3, ints (putL (stR u l d xs k m a b j) ((5 * (a : Int) + b) * p10 d + x)) ++ i.2.2)]) (fun i => Sl 1 i.1 (putL (stR u l d xs k m a b j) ((5 * (a : Int) + b) * p10 d + x)).length i.2.1 (ints (putL (stR u l d xs k m a b j) ((5 * (a : Int) + b) * p10 d + x))) i.2.2) gw_none goes26 rfl (fun _ hq => (hq).pull 0 rfl) (fun w1 hp h0 => l1Put_c (stR u l d xs k m a b j) ((5 * (a : Int) + b) * p10 d + x) _ _ _ _ _ h0 hsl2 hob2.1 (by omega)) rfl (fun iput hput => ?_)
              refine rl_val gw_none (ov_assign rfl) rfl ?_
              refine rl_nil ?_
              refine at_block ?_
              refine at_then ?_
              refine ct_reg ?_
              refine rl_val gw_none (ov_move rfl) rfl ?_
              refine rl_val gw_none (ov_add rfl rfl (by omega)) rfl ?_
              refine rl_val gw_none (ov_assign rfl) rfl ?_
              refine rl_nil ?_
              have hts := hst
              exact at_backR (j + 1, iput.1, iput.2.1, iput.2.2) ⟨by dsimp only; omega, by dsimp only; rw [hts]; exact hob2.put hpb, by dsimp only; rw [hts]; exact hput⟩ (by dsimp only; omega) (by dsimp only; rw [hts]; (repeat' (first | exact Sub.nil | refine Sub.cons ?_ ?_)); all_goals (first | rfl | exact lkInt rfl (by omega))) (Sub.cons rfl (Sub.cons rfl (Sub.cons rfl (Sub.cons rfl (Sub.cons rfl (Sub.cons rfl (Sub.cons rfl Sub.nil))))))) (fun _ hp => ((Hp.sub (Hp.pull (Hp.pull (Hp.pull hp 2 rfl) 2 rfl) 2 rfl) (List.sublist_append_left [_, _, _] _))).cong (by dsimp only; rw [hts]; try rfl))
            ·
              refine ct_skip ?_
              refine at_block ?_
              refine at_then ?_
              refine ct_reg ?_
              refine rl_val gw_none (ov_move rfl) rfl ?_
              refine rl_val gw_none (ov_add rfl rfl (by omega)) rfl ?_
              refine rl_val gw_none (ov_assign rfl) rfl ?_
              refine rl_nil ?_
              have hts := hst
              rw [show putL (stR u l d xs k m a b j) ((5 * (a : Int) + b) * p10 d + x) = (stR u l d xs k m a b j) from by rw [putL, if_pos (by simpa using h6)]] at hts
              exact at_backR (j + 1, bo2, cap2, pad2) ⟨by dsimp only; omega, by dsimp only; rw [hts]; exact hob2, by dsimp only; rw [hts]; exact hsl2⟩ (by dsimp only; omega) (by dsimp only; rw [hts]; (repeat' (first | exact Sub.nil | refine Sub.cons ?_ ?_)); all_goals (first | rfl | exact lkInt rfl (by omega))) (Sub.cons rfl (Sub.cons rfl (Sub.cons rfl (Sub.cons rfl (Sub.cons rfl (Sub.cons rfl (Sub.cons rfl Sub.nil))))))) (fun _ hp => ((Hp.sub (Hp.pull (Hp.pull (Hp.pull hp 2 rfl) 2 rfl) 2 rfl) (List.sublist_append_left [_, _, _] _))).cong (by dsimp only; rw [hts]; try rfl))
          ·
            have hje : j = (reachS u l d xs (k + 1) (m - prt r a b)).length := by omega
            subst hje
            refine ct_exit ?_
            refine at_then_exit ?_
            refine at_then_exit ?_
            refine at_block_hit ?_
            refine at_block ?_
            refine at_then ?_
            refine ct_reg ?_
            refine rl_val gw_none (ov_move rfl) rfl ?_
            refine rl_val gw_none (ov_add rfl rfl (by omega)) rfl ?_
            refine rl_val gw_none (ov_assign rfl) rfl ?_
            refine rl_nil ?_
            have hts := stB_go (u := u) (l := l) (d := d) (xs := xs) (k := k) (m := m) (a := a) (b := b) (by rw [hro]; omega)
            rw [hro] at hts
            exact at_backR (b + 1, bo2, cap2, pad2) ⟨by dsimp only; omega, by dsimp only; rw [hts]; exact hob2, by dsimp only; rw [hts]; exact hsl2⟩ (by dsimp only; omega) (by dsimp only; rw [hts]; (repeat' (first | exact Sub.nil | refine Sub.cons ?_ ?_)); all_goals (first | rfl | exact lkInt rfl (by omega))) (Sub.cons rfl (Sub.cons rfl (Sub.cons rfl (Sub.cons rfl (Sub.cons rfl Sub.nil))))) (fun _ hp => ((Hp.sub (Hp.pull (Hp.pull hp 2 rfl) 1 rfl) (List.sublist_append_left [_, _] _))).cong (by dsimp only; rw [hts]; try rfl))
      ·
        have hbe : b = (l + 1).toNat := by omega
        subst hbe
        refine ct_exit ?_
        refine at_then_exit ?_
        refine at_then_exit ?_
        refine at_block_hit ?_
        refine at_block ?_
        refine at_then ?_
        refine ct_reg ?_
        refine rl_val gw_none (ov_move rfl) rfl ?_
        refine rl_val gw_none (ov_add rfl rfl (by omega)) rfl ?_
        refine rl_val gw_none (ov_assign rfl) rfl ?_
        refine rl_nil ?_
        have hts := stA_succ (u := u) (l := l) (d := d) (xs := xs) (k := k) (m := m) (a := a)
        exact at_backR (a + 1, bo1, cap1, pad1) ⟨by dsimp only; omega, by dsimp only; rw [hts]; exact hob1, by dsimp only; rw [hts]; exact hsl1⟩ (by dsimp only; omega) (by dsimp only; rw [hts]; (repeat' (first | exact Sub.nil | refine Sub.cons ?_ ?_)); all_goals (first | rfl | exact lkInt rfl (by omega))) (Sub.cons rfl (Sub.cons rfl (Sub.cons rfl (Sub.cons rfl Sub.nil)))) (fun _ hp => ((Hp.sub (Hp.pull (Hp.pull hp 1 rfl) 1 rfl) (List.sublist_append_left [_, _] _))).cong (by dsimp only; rw [hts]; try rfl))
    ·
      refine ct_exit ?_
      refine at_then_exit ?_
      refine at_then_exit ?_
      refine at_block_hit ?_
      refine at_then ?_
      refine ct_seq ?_
      refine ct_reg ?_
      refine rl_val gw_none (ov_move rfl) rfl ?_
      refine rl_val gw_none (ov_assign rfl) rfl ?_
      refine rl_nil ?_
      refine at_then ?_
      refine ct_ret ?_
      refine at_ret1 Try.results16 (ro_tmp rfl) (fun w1 hp => ?_)
      have hae : a = (u + 1).toNat := by omega
      subst hae
      rw [stA_end] at hsl0
      rw [stA_end] at hp
      exact RetSl.own 0 hp rfl hsl0
end Go.Proofs.Ytjhlhkglpecdbaa
