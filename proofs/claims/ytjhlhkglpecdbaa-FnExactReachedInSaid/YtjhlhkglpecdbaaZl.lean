import Derived.Test.YtjhlhkglpecdbaaZk
import Derived.KernelRfl
set_option linter.unusedVariables false
set_option linter.unusedSimpArgs false
namespace Go.Proofs.Ytjhlhkglpecdbaa
open Go Go.RowKit K
theorem reached_s (d : Nat) (ih : ReachQ d) (u l : Int) (xs : List IntA2) (vxs : Value) (acc : List Int) (bo : Option Nat) (cap : Nat) (pad : List Value) (D : List Nat) (w : World) (h0 : Hp ⟨w, D⟩ [(bo, 3, ints acc ++ pad)] w) (hsl : Sl 1 bo acc.length cap (ints acc) pad) (zu : In64 u) (zl : In64 l) (hG : ∀ y ∈ xs, GIntA2 y) (hsd : SRD w D 2 vxs xs.length (flat encIntA2 xs)) (at_ : Nat) (i m : Int) (hi : i = at_) (hf : frameB u l xs = true) (h2 : xs.length ≤ 2) (hm : 0 ≤ m ∧ m ≤ 10) (hob : outB acc) (hd : at_ + (d + 1) = 2 * xs.length) : Calls Try.prog 20 ([.agg (List.toArray (α := Value) [.int .i64 u, .int .i64 l, vxs]), .int .i64 i, .int .i64 m, sv bo acc.length cap]).toArray w (fun e w' => ∃ i : Option Nat × Nat × List Value, Sl 1 i.1 (reachI u l (d + 1) xs at_ m acc).length i.2.1 (ints (reachI u l (d + 1) xs at_ m acc)) i.2.2 ∧ e = .returned (sv i.1 (reachI u l (d + 1) xs at_ m acc).length i.2.1) ∧ Hp ⟨w, D⟩ [(i.1, 3, ints (reachI u l (d + 1) xs at_ m acc) ++ i.2.2)] w') := by
  subst hi
  obtain ⟨a, capx, rfl, hcapx, hmaxx⟩ := hsd.slice
  obtain ⟨hu, hl, hxl⟩ := frameB_ul hf
  have h8 : xs.length ≤ 8 := by omega
  have hol := hob.len
  have hat2 : at_ / 2 < xs.length := by omega
  refine calls_ctds h0 Try.func20 Try.ntmps20 rfl rfl ?_
  refine ct_seq ?_
  refine ct_reg ?_
  refine rl_box rfl rfl (fun N1 => ?_)
  refine rl_val gw_none (ov_assign rfl) rfl ?_
  refine rl_nil ?_
  refine at_then ?_
  refine ct_seq ?_
  refine ct_seq ?_
  refine ct_reg ?_
  refine rl_val gw_none (ov_move rfl) rfl ?_
  refine rl_val gw_none (ov_field fo29_2 rfl) rfl ?_
  first | refine rl_val gw_none (ov_load 0 sc22 rfl rfl rfl) rfl ?_ | refine rl_val gw_none (ov_load 0 sc22 rfl rfl (by assumption)) rfl ?_
  refine rl_val gw_none (ov_len Try.underlying22 rfl) rfl ?_
  refine rl_val gw_none (ov_mul rfl rfl (by omega)) rfl ?_
  refine rl_val gw_none (ov_eql rfl rfl) rfl ?_
  refine rl_nil ?_
  refine at_then ?_
  first | refine ct_dec rfl (fun h1 => ?_) (fun h1 => ?_) | refine ct_ndec rfl (fun h1 => ?_) (fun h1 => ?_) | refine ct_eq rfl (fun h1 => ?_) (fun h1 => ?_) | refine ct_ne rfl (fun h1 => ?_) (fun h1 => ?_) | refine ct_not rfl (fun h1 => ?_) (fun h1 => ?_) | refine ct_cond rfl (fun h1 => ?_) (fun h1 => ?_)
  ·
    omega
  ·
    refine ct_skip ?_
    refine at_then ?_
    refine ct_seq ?_
    refine ct_reg ?_
    refine rl_val gw_none (ov_field fo29_0 rfl) rfl ?_
    first | refine rl_val gw_none (ov_load 0 sc3 rfl rfl rfl) rfl ?_ | refine rl_val gw_none (ov_load 0 sc3 rfl rfl (by assumption)) rfl ?_
    refine rl_val gw_none (ov_assign rfl) rfl ?_
    refine rl_nil ?_
    refine at_then ?_
    refine ct_cutS (ι := Unit) (fun _ => [(9, .int .i64 (mostP u l at_))]) [(1, _), (2, _), (3, _), (4, _), (8, _)] _ (fun _ => True) (Sub.cons rfl (Sub.cons rfl (Sub.cons rfl (Sub.cons rfl (Sub.cons rfl Sub.nil))))) (fun _ hq => hq) ?_ (fun _ _ => ?_)
    ·
      refine ct_seq ?_
      refine ct_reg ?_
      refine rl_val gw_none (ov_move rfl) rfl ?_
      refine rl_val gw_none (ov_rem rfl rfl (by omega) (by omega)) rfl ?_
      refine rl_val gw_none (ov_eql rfl rfl) rfl ?_
      refine rl_nil ?_
      refine at_then ?_
      first | refine ct_dec rfl (fun h2 => ?_) (fun h2 => ?_) | refine ct_ndec rfl (fun h2 => ?_) (fun h2 => ?_) | refine ct_eq rfl (fun h2 => ?_) (fun h2 => ?_) | refine ct_ne rfl (fun h2 => ?_) (fun h2 => ?_) | refine ct_not rfl (fun h2 => ?_) (fun h2 => ?_) | refine ct_cond rfl (fun h2 => ?_) (fun h2 => ?_)
      ·
        refine ct_reg ?_
        refine rl_val gw_none (ov_field fo29_1 rfl) rfl ?_
        first | refine rl_val gw_none (ov_load 0 sc3 rfl rfl rfl) rfl ?_ | refine rl_val gw_none (ov_load 0 sc3 rfl rfl (by assumption)) rfl ?_
        refine rl_val gw_none (ov_assign rfl) rfl ?_
        refine rl_nil ?_
        exact at_handR () trivial (by (repeat' (first | exact Sub.nil | refine Sub.cons ?_ ?_)); all_goals (first | rfl | exact lkInt rfl (by unfold mostP; first | (rw [if_pos (by omega)]; done) | (rw [if_neg (by omega)]; done)))) (Sub.cons rfl (Sub.cons rfl (Sub.cons rfl (Sub.cons rfl (Sub.cons rfl Sub.nil))))) (fun _ hq => hq)
      ·
        refine ct_skip ?_
        exact at_handR () trivial (by (repeat' (first | exact Sub.nil | refine Sub.cons ?_ ?_)); all_goals (first | rfl | exact lkInt rfl (by unfold mostP; first | (rw [if_pos (by omega)]; done) | (rw [if_neg (by omega)]; done)))) (Sub.cons rfl (Sub.cons rfl (Sub.cons rfl (Sub.cons rfl (Sub.cons rfl Sub.nil))))) (fun _ hq => hq)
    ·
      have hmb : 0 ≤ mostP u l at_ ∧ mostP u l at_ ≤ 5 := by unfold mostP; split <;> omega
      refine ct_seq ?_
      refine ct_seq ?_
      refine ct_reg ?_
      refine rl_val gw_none (ov_assign rfl) rfl ?_
      refine rl_nil ?_
      refine at_then ?_
      refine ct_block ?_
      refine ct_loopR (ι := Nat × Option Nat × Nat × List Value) (fun p1 => [(3, sv p1.2.1 (stI u l d xs at_ m acc p1.1).length p1.2.2.1), (10, .int .i64 p1.1)]) [(1, _), (2, _), (4, _), (8, _), (9, _)] (fun p1 => [(p1.2.1, 3, ints (stI u l d xs at_ m acc p1.1) ++ p1.2.2.2), _]) (fun p1 => (p1.1 : Int) ≤ mostP u l at_ + 1 ∧ Sl 1 p1.2.1 (stI u l d xs at_ m acc p1.1).length p1.2.2.1 (ints (stI u l d xs at_ m acc p1.1)) p1.2.2.2) (fun p1 => (mostP u l at_ + 1).toNat - p1.1) ((0, bo, cap, pad)) (Sub.cons rfl (Sub.cons rfl (Sub.cons rfl (Sub.cons rfl (Sub.cons rfl Sub.nil))))) (fun _ hp => ((Hp.sub (Hp.pull (Hp.pull hp 0 rfl) 1 rfl) (List.sublist_append_left [_, _] _))).cong rfl) (by (repeat' (first | exact Sub.nil | refine Sub.cons ?_ ?_)); all_goals (first | rfl | exact lkInt rfl (by omega))) ⟨by dsimp only; omega, hsl⟩ (fun p1 hp1 => ?_)
      obtain ⟨n, bo1, cap1, pad1⟩ := p1
      obtain ⟨hn, hsl1⟩ := hp1
      dsimp only at hn hsl1
      try dsimp only
      have hob1 := stI_outB (d := d) (m := m) hf h2 hob n hn
      refine ct_seq ?_
      refine ct_seq ?_
      refine ct_reg ?_
      refine rl_val gw_none (ov_move rfl) rfl ?_
      refine rl_val gw_none (ov_move rfl) rfl ?_
      refine rl_val gw_none (ov_leq rfl rfl) rfl ?_
      refine rl_nil ?_
      refine at_then ?_
      first | refine ct_dec rfl (fun h3 => ?_) (fun h3 => ?_) | refine ct_ndec rfl (fun h3 => ?_) (fun h3 => ?_) | refine ct_eq rfl (fun h3 => ?_) (fun h3 => ?_) | refine ct_ne rfl (fun h3 => ?_) (fun h3 => ?_) | refine ct_not rfl (fun h3 => ?_) (fun h3 => ?_) | refine ct_cond rfl (fun h3 => ?_) (fun h3 => ?_)
      ·
        have hn2 : (n : Int) ≤ mostP u l at_ := by omega
        have hfs := setP_frame (n := n) hf hn2
        obtain ⟨b, o, hab, hbD, hel⟩ := hsd.elem encIntA2_len (by omega) hat2
        subst hab
        have hx := getLt hat2
        generalize xs[at_ / 2] = r at hx
        have hcell := cellPt (hel _ r hx)
        have hro := rodAt_eq hx
        have hlf : lftP xs at_ n m = if (n : Int) = ptA r (at_ % 2) then m else m - 1 := by unfold lftP lessM; rw [hro]
        have hsnl := setP_len (xs := xs) (at_ := at_) (n := n)
        refine ct_skip ?_
        refine at_then ?_
        refine ct_seq ?_
        refine ct_block ?_
        refine ct_seq ?_
        refine ct_reg ?_
        refine rl_val gw_none (ov_move rfl) rfl ?_
        refine rl_val gw_none (ov_assign rfl) rfl ?_
        refine rl_nil ?_
        refine at_then ?_
        refine ct_cutS (ι := Unit) (fun _ => [(11, .int .i64 (lftP xs at_ n m))]) [(1, _), (2, _), (3, _), (4, _), (8, _), (9, _), (10, _)] _ (fun _ => True) (Sub.cons rfl (Sub.cons rfl (Sub.cons rfl (Sub.cons rfl (Sub.cons rfl (Sub.cons rfl (Sub.cons rfl Sub.nil))))))) (fun _ hq => hq) ?_ (fun _ _ => ?_)
        ·
          refine ct_seq ?_
          refine ct_reg ?_
          refine rl_val gw_none (ov_move rfl) rfl ?_
          refine rl_val gw_none (ov_field fo29_2 rfl) rfl ?_
          first | refine rl_val gw_none (ov_load 1 sc22 rfl rfl rfl) rfl ?_ | refine rl_val gw_none (ov_load 1 sc22 rfl rfl (by assumption)) rfl ?_
          refine rl_val gw_none (ov_move rfl) rfl ?_
          refine rl_val gw_none (ov_quo rfl rfl (by omega) (by omega) (by omega)) rfl ?_
          refine rl_val gw_none (ov_move rfl) rfl ?_
          refine rl_val gw_none (ov_rem rfl rfl (by omega) (by omega)) rfl ?_
          refine rl_val gw_none (ov_ix Try.underlying22 sz43 rfl rfl (at_ / 2) (by omega) (by omega)) rfl ?_
          refine rl_val gw_none (ov_ixa Try.underlying43 sz3 rfl rfl (at_ % 2) (by omega) (by omega)) rfl ?_
          refine rl_val gw_none (ov_loadwd sc3 rfl hcell hbD) rfl ?_
          refine rl_val gw_none (ov_neq rfl rfl) rfl ?_
          refine rl_nil ?_
          refine at_then ?_
          first | refine ct_dec rfl (fun h4 => ?_) (fun h4 => ?_) | refine ct_ndec rfl (fun h4 => ?_) (fun h4 => ?_) | refine ct_eq rfl (fun h4 => ?_) (fun h4 => ?_) | refine ct_ne rfl (fun h4 => ?_) (fun h4 => ?_) | refine ct_not rfl (fun h4 => ?_) (fun h4 => ?_) | refine ct_cond rfl (fun h4 => ?_) (fun h4 => ?_)
          ·
            refine ct_reg ?_
            refine rl_val gw_none (ov_move rfl) rfl ?_
            refine rl_val gw_none (ov_sub rfl rfl (by omega)) rfl ?_
            refine rl_val gw_none (ov_assign rfl) rfl ?_
            refine rl_nil ?_
            exact at_handR () trivial (by (repeat' (first | exact Sub.nil | refine Sub.cons ?_ ?_)); all_goals (first | rfl | exact lkInt rfl (by rw [hlf]; first | (rw [if_pos (by omega)]; done) | (rw [if_neg (by omega)]; done)))) (Sub.cons rfl (Sub.cons rfl (Sub.cons rfl (Sub.cons rfl (Sub.cons rfl (Sub.cons rfl (Sub.cons rfl Sub.nil))))))) (fun _ hq => hq)
          ·
            refine ct_skip ?_
            exact at_handR () trivial (by (repeat' (first | exact Sub.nil | refine Sub.cons ?_ ?_)); all_goals (first | rfl | exact lkInt rfl (by rw [hlf]; first | (rw [if_pos (by omega)]; done) | (rw [if_neg (by omega)]; done)))) (Sub.cons rfl (Sub.cons rfl (Sub.cons rfl (Sub.cons rfl (Sub.cons rfl (Sub.cons rfl (Sub.cons rfl Sub.nil))))))) (fun _ hq => hq)
        ·
          have hlb : -1 ≤ lftP xs at_ n m ∧ lftP xs at_ n m ≤ m := by rw [hlf]; split <;> omega
          refine ct_seq ?_
          refine ct_seq ?_
          refine ct_reg ?_
          refine rl_val gw_none (ov_move rfl) rfl ?_
          refine rl_val gw_none (ov_lss rfl rfl) rfl ?_
          refine rl_nil ?_
          refine at_then ?_
          first | refine ct_dec rfl (fun h5 => ?_) (fun h5 => ?_) | refine ct_ndec rfl (fun h5 => ?_) (fun h5 => ?_) | refine ct_eq rfl (fun h5 => ?_) (fun h5 => ?_) | refine ct_ne rfl (fun h5 => ?_) (fun h5 => ?_) | refine ct_not rfl (fun h5 => ?_) (fun h5 => ?_) | refine ct_cond rfl (fun h5 => ?_) (fun h5 => ?_)
          ·
            refine ct_exit ?_
            refine at_then_exit ?_
            refine at_block_hit ?_
            refine at_then ?_
            refine ct_reg ?_
            refine rl_val gw_none (ov_move rfl) rfl ?_
            refine rl_val gw_none (ov_add rfl rfl (by omega)) rfl ?_
            refine rl_val gw_none (ov_assign rfl) rfl ?_
            refine rl_nil ?_
            have hts := stI_skip (u := u) (l := l) (d := d) (xs := xs) (at_ := at_) (m := m) (acc := acc) (n := n) (by omega)
            exact at_backR (n + 1, bo1, cap1, pad1) ⟨by dsimp only; omega, by dsimp only; rw [hts]; exact hsl1⟩ (by dsimp only; omega) (by dsimp only; rw [hts]; (repeat' (first | exact Sub.nil | refine Sub.cons ?_ ?_)); all_goals (first | rfl | exact lkInt rfl (by omega))) (Sub.cons rfl (Sub.cons rfl (Sub.cons rfl (Sub.cons rfl (Sub.cons rfl Sub.nil))))) (fun _ hp => ((Hp.sub (Hp.pull (Hp.pull hp 1 rfl) 1 rfl) (List.sublist_append_left [_, _] _))).cong (by dsimp only; rw [hts]; try rfl))
          ·
            refine ct_skip ?_
            refine at_then ?_
            refine ct_seq ?_
            refine ct_reg ?_
            first | refine rl_val gw_none (ov_loadall 1 ag29 rfl rfl rfl) rfl ?_ | refine rl_val gw_none (ov_loadp 1 ag29 rfl rfl (vs := [_, _, _]) rfl rfl) rfl ?_ | refine rl_val gw_none (ov_loada 1 ag29 rfl rfl rfl (by assumption)) rfl ?_
            refine rl_callsl (ι := Nat × List Value) (fun i bo => .agg [.int .i64 u, .int .i64 l, sv bo (xs).length i.1].toArray) (fun i => flat encIntA2 (xs) ++ i.2) (fun i bo => Sl 2 bo (xs).length i.1 (flat encIntA2 (xs)) i.2) goes30 rfl (fun w1 hp => own_c u l xs _ _ zu zl hG (hsd.sr hp) h8) rfl (fun iow boow hsow => ?_)
            obtain ⟨bow, rfl⟩ := slSomeG hsow (by omega)
            refine rl_alloc ze29 rfl (fun N2 => ?_)
            refine rl_store [] sz29 rfl rfl rfl rfl rfl (Nat.le_of_ble_eq_true rfl) ?_
            refine rl_nil ?_
            refine at_then ?_
            refine ct_seq ?_
            refine ct_reg ?_
            refine rl_val gw_none (ov_field fo29_2 rfl) rfl ?_
            first | refine rl_val gw_none (ov_load 0 sc22 rfl rfl rfl) rfl ?_ | refine rl_val gw_none (ov_load 0 sc22 rfl rfl (by assumption)) rfl ?_
            refine rl_val gw_none (ov_move rfl) rfl ?_
            refine rl_val gw_none (ov_quo rfl rfl (by omega) (by omega) (by omega)) rfl ?_
            refine rl_val gw_none (ov_move rfl) rfl ?_
            refine rl_val gw_none (ov_rem rfl rfl (by omega) (by omega)) rfl ?_
            refine rl_val gw_none (ov_move rfl) rfl ?_
            refine rl_val gw_none (ov_ix Try.underlying22 sz43 rfl rfl (at_ / 2) (by omega) (by omega)) rfl ?_
            refine rl_val gw_none (ov_ixa Try.underlying43 sz3 rfl rfl (at_ % 2) (by omega) (by omega)) rfl ?_
            refine rl_store [_] sz3 rfl rfl rfl rfl rfl (by rw [List.length_append, flat_length encIntA2_len]; omega) ?_
            refine rl_mem (fun _ hq => hq.cong (congrArg (fun x => _ :: (_, _, x) :: _) (putPt hx _))) ?_
            have hsp : Sl 2 (some bow) (setP xs at_ n).length iow.1 (flat encIntA2 (setP xs at_ n)) iow.2 := slSameG encIntA2_len hsow setP_len
            rw [setP_len] at hsp
            refine rl_nil ?_
            refine at_then ?_
            refine ct_reg ?_
            first | refine rl_val gw_none (ov_loadall 0 ag29 rfl rfl rfl) rfl ?_ | refine rl_val gw_none (ov_loadp 0 ag29 rfl rfl (vs := [_, _, _]) rfl rfl) rfl ?_ | refine rl_val gw_none (ov_loada 0 ag29 rfl rfl rfl (by assumption)) rfl ?_
            refine rl_val gw_none (ov_move rfl) rfl ?_
            refine rl_val gw_none (ov_add rfl rfl (by omega)) rfl ?_
            refine rl_val gw_none (ov_move rfl) rfl ?_
            refine rl_val gw_none (ov_move rfl) rfl ?_
            refine rl_calld (ι := Option Nat × Nat × List Value) (fun i => sv i.1 (reachI u l d (setP xs at_ n) (at_ + 1) (lftP xs at_ n m) (stI u l d xs at_ m acc n)).length i.2.1) [_] [_, _, _] (fun i => [(i.1, 3, ints (reachI u l d (setP xs at_ n) (at_ + 1) (lftP xs at_ n m) (stI u l d xs at_ m acc n)) ++ i.2.2)]) (fun i => Sl 1 i.1 (reachI u l d (setP xs at_ n) (at_ + 1) (lftP xs at_ n m) (stI u l d xs at_ m acc n)).length i.2.1 (ints (reachI u l d (setP xs at_ n) (at_ + 1) (lftP xs at_ n m) (stI u l d xs at_ m acc n))) i.2.2) gw_none goes20 rfl (fun _ hq => (hq).pull 2 rfl) (fun w1 hp h0 => ih u l (setP xs at_ n) _ (stI u l d xs at_ m acc n) _ _ _ _ _ h0 hsl1 zu zl (frameB_G hfs) (by rw [setP_len]; exact hp.srd 1 (2 - 1) rfl rfl hsp) (at_ + 1) _ (lftP xs at_ n m) (by omega) hfs (by rw [setP_len]; exact h2) (by omega) hob1 (by rw [setP_len]; omega)) rfl (fun irec hrec => ?_)
            refine rl_val gw_none (ov_assign rfl) rfl ?_
            refine rl_nil ?_
            refine at_block ?_
            refine at_then ?_
            refine ct_reg ?_
            refine rl_val gw_none (ov_move rfl) rfl ?_
            refine rl_val gw_none (ov_add rfl rfl (by omega)) rfl ?_
            refine rl_val gw_none (ov_assign rfl) rfl ?_
            refine rl_nil ?_
            have hts := stI_go (u := u) (l := l) (d := d) (xs := xs) (at_ := at_) (m := m) (acc := acc) (n := n) (by omega)
            exact at_backR (n + 1, irec.1, irec.2.1, irec.2.2) ⟨by dsimp only; omega, by dsimp only; rw [hts]; exact hrec⟩ (by dsimp only; omega) (by dsimp only; rw [hts]; (repeat' (first | exact Sub.nil | refine Sub.cons ?_ ?_)); all_goals (first | rfl | exact lkInt rfl (by omega))) (Sub.cons rfl (Sub.cons rfl (Sub.cons rfl (Sub.cons rfl (Sub.cons rfl Sub.nil))))) (fun _ hp => ((Hp.sub (Hp.pull (Hp.pull hp 3 rfl) 1 rfl) (List.sublist_append_left [_, _] _))).cong (by dsimp only; rw [hts]; try rfl))
      ·
        refine ct_exit ?_
        refine at_then_exit ?_
        refine at_then_exit ?_
        refine at_block_hit ?_
        refine at_then ?_
        refine ct_seq ?_
        refine ct_reg ?_
        refine rl_val gw_none (ov_move rfl) rfl ?_
        refine rl_val gw_none (ov_assign rfl) rfl ?_
        refine rl_nil ?_
        refine at_then ?_
        refine ct_ret ?_
        refine at_ret1 Try.results20 (ro_tmp rfl) (fun w1 hp => ?_)
        have hne : n = (mostP u l at_ + 1).toNat := by omega
        subst hne
        rw [stI_end] at hsl1
        rw [stI_end] at hp
        exact ⟨(bo1, cap1, pad1), hsl1, by rw [stI_end], (Hp.sub (Hp.pull hp 0 rfl) (List.sublist_append_left [_] _))⟩
end Go.Proofs.Ytjhlhkglpecdbaa
