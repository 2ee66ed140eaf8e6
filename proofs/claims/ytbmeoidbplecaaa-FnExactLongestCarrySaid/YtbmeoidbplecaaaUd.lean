import Derived.Test.YtbmeoidbplecaaaUc
import Derived.Test.YtbmeoidbplecaaaUe
import Derived.KernelRfl
set_option linter.unusedVariables false
set_option linter.unusedSimpArgs false
namespace Go.Proofs.Ytbmeoidbplecaaa
open Go Go.RowKit K
theorem iLongestCarry_c_no (u : Int) (l : Int) (xs : List IntA2) (rod : Int) (vxs : Value) (w : World) (zu : In64 u) (zl : In64 l) (hGxs : ∀ y ∈ xs, GIntA2 y) (hsxs : SR w 2 vxs xs.length (flat encIntA2 xs)) (zrod : In64 rod) (hc : addDB u l xs rod 1 = false) : Calls Try.prog 7 ([.agg (List.toArray (α := Value) [.int .i64 u, .int .i64 l, vxs]), .int .i64 rod]).toArray w (fun e w' => e = .returned (.tuple #[.int .i64 (if addDB u l xs rod 1 = true then (((addS (rod.toNat + 1) xs 1).2 : Nat) : Int) + 1 else 0), .bool (addDB u l xs rod 1)]) ∧ Ext w w') := by
  obtain ⟨axs, capxs, rfl, hcapxs, hmaxxs⟩ := hsxs.slice
  have hlenxs := hsxs.len_le
  refine calls_ct Try.func7 Try.ntmps7 rfl rfl ?_
  refine ct_seq ?_
  refine ct_reg ?_
  refine rl_box rfl rfl (fun N1 => ?_)
  refine rl_val gw_none (ov_assign rfl) rfl ?_
  refine rl_val gw_none (ov_assign rfl) rfl ?_
  refine rl_nil ?_
  refine at_then ?_
  refine ct_seq ?_
  refine ct_reg ?_
  first | refine rl_val gw_none (ov_loadall 0 ag28 rfl rfl rfl) rfl ?_ | refine rl_val gw_none (ov_loadp 0 ag28 rfl rfl (vs := [_, _, _]) rfl rfl) rfl ?_ | refine rl_val gw_none (ov_loada 0 ag28 rfl rfl rfl (by assumption)) rfl ?_
  refine rl_val gw_none (ov_move rfl) rfl ?_
  refine rl_callv gw_none goes13 rfl (fun w1 hp => addDigit_no u l xs _ rod 1 _ zu zl hGxs (hsxs.ext hp.ext0) zrod (by unfold In64; omega) hc) rfl ?_
  refine rl_val gw_none (ov_move rfl) rfl ?_
  refine rl_val gw_none (ov_extract rfl rfl) rfl ?_
  refine rl_val gw_none (ov_extract rfl rfl) rfl ?_
  refine rl_val gw_none (ov_assign rfl) rfl ?_
  refine rl_val gw_none (ov_assign rfl) rfl ?_
  refine rl_nil ?_
  refine at_then ?_
  refine ct_seq ?_
  refine ct_seq ?_
  refine ct_reg ?_
  refine rl_val gw_none (ov_move rfl) rfl ?_
  refine rl_val gw_none (ov_not rfl) rfl ?_
  refine rl_nil ?_
  refine at_then ?_
  first | refine ct_dec rfl (fun h1 => ?_) (fun h1 => ?_) | refine ct_ndec rfl (fun h1 => ?_) (fun h1 => ?_) | refine ct_eq rfl (fun h1 => ?_) (fun h1 => ?_) | refine ct_ne rfl (fun h1 => ?_) (fun h1 => ?_) | refine ct_not rfl (fun h1 => ?_) (fun h1 => ?_) | refine ct_cond rfl (fun h1 => ?_) (fun h1 => ?_)
  ·
    refine ct_seq ?_
    refine ct_reg ?_
    refine rl_val gw_none (ov_assign rfl) rfl ?_
    refine rl_val gw_none (ov_assign rfl) rfl ?_
    refine rl_nil ?_
    refine at_then ?_
    refine ct_ret ?_
    refine at_then_ret ?_
    refine at_ret2 Try.results7 (ro_tmp rfl) (ro_tmp rfl) (fun w1 hp => ?_)
    rw [hc]; exact ⟨rfl, hp.ext0⟩
  ·
    cases h1

theorem iLongestCarry_c_yes (u : Int) (l : Int) (xs : List IntA2) (rod : Int) (vxs : Value) (w : World) (zu : In64 u) (zl : In64 l) (hGxs : ∀ y ∈ xs, GIntA2 y) (hsxs : SR w 2 vxs xs.length (flat encIntA2 xs)) (zrod : In64 rod) (hc : addDB u l xs rod 1 = true) : Calls Try.prog 7 ([.agg (List.toArray (α := Value) [.int .i64 u, .int .i64 l, vxs]), .int .i64 rod]).toArray w (fun e w' => e = .returned (.tuple #[.int .i64 (if addDB u l xs rod 1 = true then (((addS (rod.toNat + 1) xs 1).2 : Nat) : Int) + 1 else 0), .bool (addDB u l xs rod 1)]) ∧ Ext w w') := by
  obtain ⟨axs, capxs, rfl, hcapxs, hmaxxs⟩ := hsxs.slice
  have hlenxs := hsxs.len_le
  obtain ⟨hg, hr, hd, hC⟩ := addDB_ok hc
  have h8 := (frameB_ul (goodB_f hg)).2.2.2
  have hcn := cntK_le xs rod.toNat 1
  rw [cntK_add hg hC] at hcn
  refine calls_ct Try.func7 Try.ntmps7 rfl rfl ?_
  refine ct_seq ?_
  refine ct_reg ?_
  refine rl_box rfl rfl (fun N1 => ?_)
  refine rl_val gw_none (ov_assign rfl) rfl ?_
  refine rl_val gw_none (ov_assign rfl) rfl ?_
  refine rl_nil ?_
  refine at_then ?_
  refine ct_seq ?_
  refine ct_reg ?_
  first | refine rl_val gw_none (ov_loadall 0 ag28 rfl rfl rfl) rfl ?_ | refine rl_val gw_none (ov_loadp 0 ag28 rfl rfl (vs := [_, _, _]) rfl rfl) rfl ?_ | refine rl_val gw_none (ov_loada 0 ag28 rfl rfl rfl (by assumption)) rfl ?_
  refine rl_val gw_none (ov_move rfl) rfl ?_
  refine rl_calle (ι := Nat × Nat × Nat × List Value × Option Nat × Nat × List Value × List BeadMove) (fun q => .tuple #[.pointer (some ⟨q.1, 0, none⟩), .bool true]) (fun q => [(some q.1, 42, [.int .i64 u, .int .i64 l, sv (some q.2.1) ((addS (rod.toNat + 1) xs 1).1).length q.2.2.1, sv q.2.2.2.2.1 (q.2.2.2.2.2.2.2).length q.2.2.2.2.2.1, .int .i64 (0 + ((addS (rod.toNat + 1) xs 1).2 : Nat))]), (some q.2.1, 35, flat encIntA2 ((addS (rod.toNat + 1) xs 1).1) ++ q.2.2.2.1), (q.2.2.2.2.1, 61, flat encBeadMove (q.2.2.2.2.2.2.2) ++ q.2.2.2.2.2.2.1)]) (fun q => Sl 2 (some q.2.1) ((addS (rod.toNat + 1) xs 1).1).length q.2.2.1 (flat encIntA2 ((addS (rod.toNat + 1) xs 1).1)) q.2.2.2.1 ∧ Sl 3 q.2.2.2.2.1 q.2.2.2.2.2.2.2.length q.2.2.2.2.2.1 (flat encBeadMove q.2.2.2.2.2.2.2) q.2.2.2.2.2.2.1) goes13 rfl (fun w1 hp => addDigit_yes u l xs _ rod 1 _ zu zl hGxs (hsxs.ext hp.ext0) zrod (by unfold In64; omega) hc) rfl (fun qw hqw => ?_)
  obtain ⟨bw, br, rc, rp, bm, mc, mp, ms⟩ := qw
  obtain ⟨hsr2, hsm2⟩ := hqw
  try dsimp only at hsr2 hsm2 ⊢
  refine rl_val gw_none (ov_move rfl) rfl ?_
  refine rl_val gw_none (ov_extract rfl rfl) rfl ?_
  refine rl_val gw_none (ov_extract rfl rfl) rfl ?_
  refine rl_val gw_none (ov_assign rfl) rfl ?_
  refine rl_val gw_none (ov_assign rfl) rfl ?_
  refine rl_nil ?_
  refine at_then ?_
  refine ct_seq ?_
  refine ct_seq ?_
  refine ct_reg ?_
  refine rl_val gw_none (ov_move rfl) rfl ?_
  refine rl_val gw_none (ov_not rfl) rfl ?_
  refine rl_nil ?_
  refine at_then ?_
  first | refine ct_dec rfl (fun h1 => ?_) (fun h1 => ?_) | refine ct_ndec rfl (fun h1 => ?_) (fun h1 => ?_) | refine ct_eq rfl (fun h1 => ?_) (fun h1 => ?_) | refine ct_ne rfl (fun h1 => ?_) (fun h1 => ?_) | refine ct_not rfl (fun h1 => ?_) (fun h1 => ?_) | refine ct_cond rfl (fun h1 => ?_) (fun h1 => ?_)
  ·
    cases h1
  ·
    refine ct_skip ?_
    refine at_then ?_
    refine ct_seq ?_
    refine ct_reg ?_
    refine rl_val gw_none (ov_move rfl) rfl ?_
    refine rl_val gw_none (ov_nilc rfl) rfl ?_
    refine rl_val gw_none (ov_field fo42_2 rfl) rfl ?_
    first | refine rl_val gw_none (ov_load 0 sc3 rfl rfl rfl) rfl ?_ | refine rl_val gw_none (ov_load 0 sc3 rfl rfl (by assumption)) rfl ?_
    refine rl_val gw_none (ov_add rfl rfl (by omega)) rfl ?_
    refine rl_val gw_none (ov_assign rfl) rfl ?_
    refine rl_val gw_none (ov_assign rfl) rfl ?_
    refine rl_nil ?_
    refine at_then ?_
    refine ct_ret ?_
    refine at_ret2 Try.results7 (ro_tmp rfl) (ro_tmp rfl) (fun w1 hp => ?_)
    refine ⟨?_, hp.ext0⟩
    rw [hc, if_pos rfl, Int.zero_add]

theorem iLongestCarry_c (u : Int) (l : Int) (xs : List IntA2) (rod : Int) (vxs : Value) (w : World) (zu : In64 u) (zl : In64 l) (hGxs : ∀ y ∈ xs, GIntA2 y) (hsxs : SR w 2 vxs xs.length (flat encIntA2 xs)) (zrod : In64 rod) : Calls Try.prog 7 ([.agg (List.toArray (α := Value) [.int .i64 u, .int .i64 l, vxs]), .int .i64 rod]).toArray w (fun e w' => e = .returned (.tuple #[.int .i64 (if addDB u l xs rod 1 = true then (((addS (rod.toNat + 1) xs 1).2 : Nat) : Int) + 1 else 0), .bool (addDB u l xs rod 1)]) ∧ Ext w w') := by
  rcases Bool.eq_false_or_eq_true (addDB u l xs rod 1) with hc | hc
  · apply iLongestCarry_c_yes <;> assumption
  · apply iLongestCarry_c_no <;> assumption

theorem sLongestCarry_c (u : Int) (l : Int) (xs : List IntA2) (rod : Int) (vxs : Value) (w : World) (zu : In64 u) (zl : In64 l) (hGxs : ∀ y ∈ xs, GIntA2 y) (hsxs : SR w 2 vxs xs.length (flat encIntA2 xs)) (zrod : In64 rod) : Calls Try.prog 5 ([.agg (List.toArray (α := Value) [.int .i64 u, .int .i64 l, vxs]), .int .i64 rod]).toArray w (fun e w' => e = .returned (.tuple #[.int .i64 (if addDB u l xs rod 1 = true then (((addS (rod.toNat + 1) xs 1).2 : Nat) : Int) + 1 else 0), .bool (addDB u l xs rod 1)]) ∧ Ext w w') := by
  obtain ⟨axs, capxs, rfl, hcapxs, hmaxxs⟩ := hsxs.slice
  have hlenxs := hsxs.len_le
  refine calls_ct Try.func5 Try.ntmps5 rfl rfl ?_
  refine ct_seq ?_
  refine ct_reg ?_
  refine rl_box rfl rfl (fun N1 => ?_)
  refine rl_val gw_none (ov_assign rfl) rfl ?_
  refine rl_val gw_none (ov_assign rfl) rfl ?_
  refine rl_nil ?_
  refine at_then ?_
  refine ct_seq ?_
  refine ct_seq ?_
  refine ct_reg ?_
  first | refine rl_val gw_none (ov_loadall 0 ag28 rfl rfl rfl) rfl ?_ | refine rl_val gw_none (ov_loadp 0 ag28 rfl rfl (vs := [_, _, _]) rfl rfl) rfl ?_ | refine rl_val gw_none (ov_loada 0 ag28 rfl rfl rfl (by assumption)) rfl ?_
  refine rl_val gw_none (ov_move rfl) rfl ?_
  refine rl_callv gw_none goes10 rfl (fun w1 hp => l6CanDigit_c u l xs _ rod 1 _ zu zl hGxs (hsxs.ext hp.ext0) zrod (by unfold In64; omega)) rfl ?_
  refine rl_val gw_none (ov_not rfl) rfl ?_
  refine rl_nil ?_
  refine at_then ?_
  first | refine ct_dec rfl (fun h1 => ?_) (fun h1 => ?_) | refine ct_ndec rfl (fun h1 => ?_) (fun h1 => ?_) | refine ct_eq rfl (fun h1 => ?_) (fun h1 => ?_) | refine ct_ne rfl (fun h1 => ?_) (fun h1 => ?_) | refine ct_not rfl (fun h1 => ?_) (fun h1 => ?_) | refine ct_cond rfl (fun h1 => ?_) (fun h1 => ?_)
  ·
    refine ct_seq ?_
    refine ct_reg ?_
    refine rl_val gw_none (ov_assign rfl) rfl ?_
    refine rl_val gw_none (ov_assign rfl) rfl ?_
    refine rl_nil ?_
    refine at_then ?_
    refine ct_ret ?_
    refine at_then_ret ?_
    refine at_ret2 Try.results5 (ro_tmp rfl) (ro_tmp rfl) (fun w1 hp => ?_)
    refine ⟨?_, hp.ext0⟩
    first | (rw [show addDB u l xs rod 1 = false by simpa using h1]; rfl) | (rw [hc, if_pos rfl, show (((addS (rod.toNat + 1) xs 1).2 : Nat) : Int) + 1 = _ by first | (show _ = rod - ((0 : Nat) : Int) + 1; omega) | (show _ = rod - ((q + 1 : Nat) : Int) + 1; omega)])
  ·
    have hc : addDB u l xs rod 1 = true := by simpa using h1
    obtain ⟨hg, hr, hd, hC⟩ := addDB_ok hc
    have hf := goodB_f hg
    have h8 := (frameB_ul hf).2.2.2
    have hl1 := (frameB_ul hf).2.2.1
    have hca := cntK_add hg hC
    refine ct_skip ?_
    refine at_then ?_
    refine ct_seq ?_
    refine ct_reg ?_
    refine rl_val gw_none (ov_assign rfl) rfl ?_
    refine rl_nil ?_
    refine at_then ?_
    refine ct_seq ?_
    refine ct_block ?_
    refine ct_loopR (ι := Nat) (fun k => [(6, .int .i64 (rod - (k : Int) + 1))]) [(1, _), (2, _), (4, _), (5, _)] (fun _ => _) (fun k => ((k : Int) ≤ rod) ∧ (rod - k + 1) + ((cntK xs k 1 : Nat) : Int) = 1 + ((cntK xs rod.toNat 1 : Nat) : Int)) (fun k => k) (rod.toNat) (Sub.cons rfl (Sub.cons rfl (Sub.cons rfl (Sub.cons rfl Sub.nil)))) (fun _ hq => hq) (by (repeat' (first | exact Sub.nil | refine Sub.cons ?_ ?_)); all_goals (first | rfl | exact lkInt rfl (by omega))) ⟨by omega, by omega⟩ (fun k hi => ?_)
    obtain ⟨hk, hcn⟩ := hi
    refine ct_seq ?_
    refine ct_seq ?_
    refine ct_reg ?_
    refine rl_val gw_none (ov_move rfl) rfl ?_
    refine rl_val gw_none (ov_move rfl) rfl ?_
    refine rl_val gw_none (ov_sub rfl rfl (by omega)) rfl ?_
    refine rl_val gw_none (ov_geq rfl rfl) rfl ?_
    refine rl_val gw_none (ov_move rfl) rfl ?_
    refine rl_split (t := 15) rfl (fun g1 => ?_) (fun g1 => ?_)
    ·
      have hk0 : 0 < k := by simp at g1; omega
      have hk2 : k < xs.length := by omega
      obtain ⟨b, o, rfl, hel⟩ := hsxs.elem encIntA2_len (by omega) hk2
      have hx := getLt hk2
      generalize xs[k] = r at *
      have hcx := hel k r hx
      obtain ⟨c0, c1, _⟩ := hel k r hx
      have hrg := good_at hg hx
      have hrv := rvAt_eq hx
      obtain ⟨q, rfl⟩ : ∃ q, k = q + 1 := ⟨k - 1, by omega⟩
      refine rl_val (gw_some rfl rfl g1) (ov_field fo28_2 rfl) rfl ?_
      first | refine rl_val (gw_some rfl rfl g1) (ov_load 0 sc22 rfl rfl rfl) rfl ?_ | refine rl_val (gw_some rfl rfl g1) (ov_load 0 sc22 rfl rfl (by assumption)) rfl ?_
      refine rl_val (gw_some rfl rfl g1) (ov_move rfl) rfl ?_
      refine rl_val (gw_some rfl rfl g1) (ov_move rfl) rfl ?_
      refine rl_val (gw_some rfl rfl g1) (ov_sub rfl rfl (by omega)) rfl ?_
      refine rl_val (gw_some rfl rfl g1) (ov_add rfl rfl (by omega)) rfl ?_
      first | refine rl_val (gw_some rfl rfl g1) (ov_ix Try.underlying22 sz35 rfl rfl _ rfl (by omega)) rfl ?_ | refine rl_val (gw_some rfl rfl g1) (ov_ix Try.underlying22 sz35 rfl rfl (q + 1) (by omega) (by omega)) rfl ?_ | refine rl_val (gw_some rfl rfl g1) (ov_ix Try.underlying22 sz35 rfl rfl (k) (by omega) (by omega)) rfl ?_
      first | refine rl_val (gw_some rfl rfl g1) (ov_loadaw ag35 rfl rfl (by assumption)) rfl ?_ | refine rl_val (gw_some rfl rfl g1) (ov_loadall 0 ag35 rfl rfl rfl) rfl ?_ | refine rl_val (gw_some rfl rfl g1) (ov_loadall 1 ag35 rfl rfl rfl) rfl ?_ | refine rl_val (gw_some rfl rfl g1) (ov_loadall 2 ag35 rfl rfl rfl) rfl ?_ | refine rl_val (gw_some rfl rfl g1) (ov_loadall 3 ag35 rfl rfl rfl) rfl ?_
      refine rl_callv (gw_some rfl rfl g1) goes11 rfl (fun w1 hp => l2Value_c r _ (by omega)) rfl ?_
      refine rl_val (gw_some rfl rfl g1) (ov_eql rfl rfl) rfl ?_
      refine rl_val gw_none (ov_pick_t rfl g1 rfl) rfl ?_
      refine rl_nil ?_
      refine at_then ?_
      first | refine ct_dec rfl (fun h2 => ?_) (fun h2 => ?_) | refine ct_ndec rfl (fun h2 => ?_) (fun h2 => ?_) | refine ct_eq rfl (fun h2 => ?_) (fun h2 => ?_) | refine ct_ne rfl (fun h2 => ?_) (fun h2 => ?_) | refine ct_not rfl (fun h2 => ?_) (fun h2 => ?_) | refine ct_cond rfl (fun h2 => ?_) (fun h2 => ?_)
      ·
        refine ct_skip ?_
        refine at_then ?_
        refine ct_block ?_
        refine ct_reg ?_
        refine rl_val gw_none (ov_move rfl) rfl ?_
        refine rl_val gw_none (ov_add rfl rfl (by omega)) rfl ?_
        refine rl_val gw_none (ov_assign rfl) rfl ?_
        refine rl_nil ?_
        refine at_block ?_
        have hcy := cntK_yes (xs := xs) (k := q) (d := 1) (by omega)
        exact at_backR q ⟨by omega, by omega⟩ (by omega) (by (repeat' (first | exact Sub.nil | refine Sub.cons ?_ ?_)); all_goals (first | rfl | exact lkInt rfl (by omega))) (Sub.cons rfl (Sub.cons rfl (Sub.cons rfl (Sub.cons rfl Sub.nil)))) (fun _ hq => hq)
      ·
        have hcz := cntK_no (xs := xs) (k := q) (d := 1) (by omega)
        refine ct_exit ?_
        refine at_then_exit ?_
        refine at_then_exit ?_
        refine at_block_hit ?_
        refine at_then ?_
        refine ct_seq ?_
        refine ct_reg ?_
        refine rl_val gw_none (ov_move rfl) rfl ?_
        refine rl_val gw_none (ov_assign rfl) rfl ?_
        refine rl_val gw_none (ov_assign rfl) rfl ?_
        refine rl_nil ?_
        refine at_then ?_
        refine ct_ret ?_
        refine at_ret2 Try.results5 (ro_tmp rfl) (ro_tmp rfl) (fun w1 hp => ?_)
        refine ⟨?_, hp.ext0⟩
        first | (rw [show addDB u l xs rod 1 = false by simpa using h1]; rfl) | (rw [hc, if_pos rfl, show (((addS (rod.toNat + 1) xs 1).2 : Nat) : Int) + 1 = _ by first | (show _ = rod - ((0 : Nat) : Int) + 1; omega) | (show _ = rod - ((q + 1 : Nat) : Int) + 1; omega)])
    ·
      have hk0 : k = 0 := by simp at g1; omega
      subst hk0
      have hcz : cntK xs 0 1 = 0 := rfl
      refine rl_skip (gw_not rfl rfl g1) rfl ?_
      refine rl_skip (gw_not rfl rfl g1) rfl ?_
      refine rl_skip (gw_not rfl rfl g1) rfl ?_
      refine rl_skip (gw_not rfl rfl g1) rfl ?_
      refine rl_skip (gw_not rfl rfl g1) rfl ?_
      refine rl_skip (gw_not rfl rfl g1) rfl ?_
      refine rl_skip (gw_not rfl rfl g1) rfl ?_
      refine rl_skip (gw_not rfl rfl g1) rfl ?_
      refine rl_skip (gw_not rfl rfl g1) rfl ?_
      refine rl_skip (gw_not rfl rfl g1) rfl ?_
      refine rl_val gw_none (ov_pick_f rfl g1 rfl) rfl ?_
      refine rl_nil ?_
      refine at_then ?_
      refine ct_false rfl rfl ?_
      refine ct_exit ?_
      refine at_then_exit ?_
      refine at_then_exit ?_
      refine at_block_hit ?_
      refine at_then ?_
      refine ct_seq ?_
      refine ct_reg ?_
      refine rl_val gw_none (ov_move rfl) rfl ?_
      refine rl_val gw_none (ov_assign rfl) rfl ?_
      refine rl_val gw_none (ov_assign rfl) rfl ?_
      refine rl_nil ?_
      refine at_then ?_
      refine ct_ret ?_
      refine at_ret2 Try.results5 (ro_tmp rfl) (ro_tmp rfl) (fun w1 hp => ?_)
      refine ⟨?_, hp.ext0⟩
      first | (rw [show addDB u l xs rod 1 = false by simpa using h1]; rfl) | (rw [hc, if_pos rfl, show (((addS (rod.toNat + 1) xs 1).2 : Nat) : Int) + 1 = _ by first | (show _ = rod - ((0 : Nat) : Int) + 1; omega) | (show _ = rod - ((q + 1 : Nat) : Int) + 1; omega)])
end Go.Proofs.Ytbmeoidbplecaaa
