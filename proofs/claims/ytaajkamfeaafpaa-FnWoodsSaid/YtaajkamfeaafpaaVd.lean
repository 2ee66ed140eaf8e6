import Derived.Test.YtaajkamfeaafpaaVc
import Derived.KernelRfl
set_option linter.unusedVariables false
set_option linter.unusedSimpArgs false
namespace Go.Proofs.Ytaajkamfeaafpaa
open Go Go.RowKit K
theorem repaired_c (bl : Option Nat) (cl : Nat) (pl : List Value) (xs : List Repair) (bc : Nat) (a : Option Addr) (lc capc : Nat) (at_ s : Int) (D : List Nat) (w : World) (h0 : Hp ⟨w, D⟩ [(some bc, 84, [.slice a lc capc, .int .i64 at_, .int .u64 s]), (bl, 53, flat encRepair xs ++ pl)] w) (hcd : CodeOk w D a lc) (hat : 0 ≤ at_ ∧ at_ ≤ 1000000000) (hsl : Sl 5 bl xs.length cl (flat encRepair xs) pl) (hG : ∀ y ∈ xs, GRepair y) (hx : xs.length ≤ 12) : Calls Try.prog 88 ([.pointer (some ⟨bc, 0, none⟩), sv bl xs.length cl]).toArray w (fun e w' => ∃ j : (Int) × Int × Int, ((In64 j.1) ∧ at_ ≤ j.2.1 ∧ j.2.1 ≤ at_ + 10) ∧ e = .returned (.int .i64 j.1) ∧ Hp ⟨w, D⟩ [(some bc, 84, [.slice a lc capc, .int .i64 j.2.1, .int .u64 j.2.2]), (bl, 53, flat encRepair xs ++ pl)] w') := by
  refine calls_ctds h0 Try.func88 Try.ntmps88 rfl rfl ?_
  refine ct_seq ?_
  refine ct_reg ?_
  refine rl_val gw_none (ov_assign rfl) rfl ?_
  refine rl_nil ?_
  refine at_then ?_
  refine ct_seq ?_
  refine ct_seq ?_
  refine ct_reg ?_
  refine rl_val gw_none (ov_move rfl) rfl ?_
  refine rl_val gw_none (ov_len Try.underlying37 rfl) rfl ?_
  refine rl_val gw_none (ov_eql rfl rfl) rfl ?_
  refine rl_val gw_none (ov_move rfl) rfl ?_
  refine rl_split (t := 8) rfl (fun g1 => ?_) (fun g1 => ?_)
  ·
    have hz : xs.length = 0 := by have h9 := eq_of_beq g1; omega
    refine rl_skip (gw_not rfl rfl g1) rfl ?_
    refine rl_skip (gw_not rfl rfl g1) rfl ?_
    refine rl_val gw_none (ov_pick_t rfl g1 rfl) rfl ?_
    refine rl_nil ?_
    refine at_then ?_
    refine ct_true rfl rfl ?_
    refine ct_seq ?_
    refine ct_reg ?_
    refine rl_val gw_none (ov_move rfl) rfl ?_
    refine rl_bslice Try.underlying34 ze3 sz3 rfl rfl rfl rfl rfl rfl (fun N1 => ?_)
    refine rl_calld (ι := (Int) × Int × Int) (fun j => .int .i64 j.1) [_, _] [_] (fun j => [(_, 84, [_, .int .i64 j.2.1, .int .u64 j.2.2])]) (fun j => ((-1000000) ≤ j.1 ∧ j.1 ≤ 1000000) ∧ _ ≤ j.2.1 ∧ j.2.1 ≤ _ + 2) gw_none goes76 rfl (fun _ hq => ((hq).pull 0 rfl).pull 1 rfl) (fun w1 hp h0 => among_c (-1000000) 1000000 _ _ _ _ _ _ _ _ _ _ _ _ h0 (hcd.call hp (by simp)) (by omega) (by first | rfl | decide | (simp [okIntsR]; done) | (simp [okIntsR]; omega) | (simp [okIntsR, Value.cells]; omega)) (by first | decide | (simp; done) | (simp; omega) | omega | (simp [Value.cells]; done) | (simp [Value.cells]; omega))) rfl (fun ja hja => ?_)
    obtain ⟨va, ta, sa⟩ := ja
    dsimp only at hja
    try dsimp only
    refine rl_val gw_none (ov_assign rfl) rfl ?_
    refine rl_nil ?_
    refine at_then ?_
    refine ct_ret ?_
    refine at_then_ret ?_
    refine at_ret1 Try.results88 (ro_tmp rfl) (fun w1 hp => ?_)
    exact ⟨(va, _, _), ⟨by unfold In64; dsimp only; omega, by dsimp only; omega, by dsimp only; omega⟩, rfl, (Hp.sub (Hp.pull (Hp.pull hp 1 rfl) 1 rfl) (List.sublist_append_left [_, _] _))⟩
  ·
    have hz : xs.length ≠ 0 := by have h9 := ne_of_beq_false g1; omega
    refine rl_val (gw_some rfl rfl g1) (ov_move rfl) rfl ?_
    refine rl_calld (ι := (Bool) × Int × Int) (fun j => .bool j.1) [_] [_] (fun j => [(_, 84, [_, .int .i64 j.2.1, .int .u64 j.2.2])]) (fun j => True ∧ _ ≤ j.2.1 ∧ j.2.1 ≤ _ + 2) (gw_some rfl rfl g1) goes92 rfl (fun _ hq => (hq).pull 0 rfl) (fun w1 hp h0 => one_c _ _ _ _ _ _ _ _ _ h0 (hcd.call hp (by simp)) (by omega) (by omega)) rfl (fun j39 hj39 => ?_)
    obtain ⟨v39, t39, s39⟩ := j39
    dsimp only at hj39
    try dsimp only
    refine rl_val gw_none (ov_pick_f rfl g1 rfl) rfl ?_
    refine rl_nil ?_
    refine at_then ?_
    first | refine ct_dec rfl (fun h1 => ?_) (fun h1 => ?_) | refine ct_ndec rfl (fun h1 => ?_) (fun h1 => ?_) | refine ct_eq rfl (fun h1 => ?_) (fun h1 => ?_) | refine ct_ne rfl (fun h1 => ?_) (fun h1 => ?_) | refine ct_not rfl (fun h1 => ?_) (fun h1 => ?_) | refine ct_cond rfl (fun h1 => ?_) (fun h1 => ?_)
    ·
      refine ct_seq ?_
      refine ct_reg ?_
      refine rl_val gw_none (ov_move rfl) rfl ?_
      refine rl_bslice Try.underlying34 ze3 sz3 rfl rfl rfl rfl rfl rfl (fun N2 => ?_)
      refine rl_calld (ι := (Int) × Int × Int) (fun j => .int .i64 j.1) [_, _] [_] (fun j => [(_, 84, [_, .int .i64 j.2.1, .int .u64 j.2.2])]) (fun j => ((-1000000) ≤ j.1 ∧ j.1 ≤ 1000000) ∧ _ ≤ j.2.1 ∧ j.2.1 ≤ _ + 2) gw_none goes76 rfl (fun _ hq => ((hq).pull 0 rfl).pull 1 rfl) (fun w1 hp h0 => among_c (-1000000) 1000000 _ _ _ _ _ _ _ _ _ _ _ _ h0 (hcd.call hp (by simp)) (by omega) (by first | rfl | decide | (simp [okIntsR]; done) | (simp [okIntsR]; omega) | (simp [okIntsR, Value.cells]; omega)) (by first | decide | (simp; done) | (simp; omega) | omega | (simp [Value.cells]; done) | (simp [Value.cells]; omega))) rfl (fun ja hja => ?_)
      obtain ⟨va, ta, sa⟩ := ja
      dsimp only at hja
      try dsimp only
      refine rl_val gw_none (ov_assign rfl) rfl ?_
      refine rl_nil ?_
      refine at_then ?_
      refine ct_ret ?_
      refine at_then_ret ?_
      refine at_ret1 Try.results88 (ro_tmp rfl) (fun w1 hp => ?_)
      exact ⟨(va, _, _), ⟨by unfold In64; dsimp only; omega, by dsimp only; omega, by dsimp only; omega⟩, rfl, (Hp.sub (Hp.pull (Hp.pull hp 1 rfl) 1 rfl) (List.sublist_append_left [_, _] _))⟩
    ·
      refine ct_skip ?_
      refine at_then ?_
      refine ct_seq ?_
      refine ct_reg ?_
      refine rl_val gw_none (ov_move rfl) rfl ?_
      refine rl_val gw_none (ov_move rfl) rfl ?_
      refine rl_val gw_none (ov_move rfl) rfl ?_
      refine rl_val gw_none (ov_len Try.underlying37 rfl) rfl ?_
      refine rl_calld (ι := (Int) × Int × Int) (fun j => .int .i64 j.1) [_] [_] (fun j => [(_, 84, [_, .int .i64 j.2.1, .int .u64 j.2.2])]) (fun j => (0 ≤ j.1 ∧ (j.1 < _ ∨ j.1 = 0)) ∧ _ ≤ j.2.1 ∧ j.2.1 ≤ _ + 2) gw_none goes77 rfl (fun _ hq => (hq).pull 0 rfl) (fun w1 hp h0 => pick_c _ _ _ _ _ _ _ _ _ h0 (hcd.call hp (by simp)) (by omega) (by omega)) rfl (fun jp hjp => ?_)
      obtain ⟨vp, tp, sp⟩ := jp
      dsimp only at hjp
      try dsimp only
      have hvp : vp.toNat < xs.length := by omega
      obtain ⟨b0, rfl⟩ := slSomeG hsl (by omega)
      have hr := getLt hvp
      have hGr := hG _ (List.getElem_mem hvp)
      generalize xs[vp.toNat] = r at *
      first | refine rl_val gw_none (ov_ix Try.underlying37 sz53 rfl rfl _ rfl (by omega)) rfl ?_ | refine rl_val gw_none (ov_ix Try.underlying37 sz53 rfl rfl (vp.toNat) (by omega) (by omega)) rfl ?_
      refine rl_val gw_none (ov_field fo53_0 rfl) rfl ?_
      refine rl_val gw_none (ov_load 1 sc3 rfl rfl (flatGetG encRepair_len (f := 0) hr rfl _)) rfl ?_
      refine rl_val gw_none (ov_assign rfl) rfl ?_
      refine rl_nil ?_
      refine at_then ?_
      refine ct_ret ?_
      refine at_ret1 Try.results88 (ro_tmp rfl) (fun w1 hp => ?_)
      exact ⟨(r.frame, _, _), ⟨hGr.1, by dsimp only; omega, by dsimp only; omega⟩, rfl, (Hp.sub (Hp.pull (Hp.pull hp 1 rfl) 1 rfl) (List.sublist_append_left [_, _] _))⟩

theorem DrawCostOf_c (a : Option Addr) (lc capc : Nat) (w : World) (hcd : CodeOk w [] a lc) : Calls Try.prog 57 ([.slice a lc capc]).toArray w (fun e w' => ∃ q : (Option Nat × Nat × List Value × List Wood) × (Option Nat × Nat × List Value × List Repair) × Int, ((Sl 3 q.1.1 q.1.2.2.2.length q.1.2.1 (flat encWood q.1.2.2.2) q.1.2.2.1 ∧ q.1.2.2.2.length ≤ 10 ∧ (∀ y ∈ q.1.2.2.2, GWood y)) ∧ (Sl 5 q.2.1.1 q.2.1.2.2.2.length q.2.1.2.1 (flat encRepair q.2.1.2.2.2) q.2.1.2.2.1 ∧ q.2.1.2.2.2.length ≤ 12 ∧ (∀ y ∈ q.2.1.2.2.2, GRepair y)) ∧ In64 q.2.2) ∧ e = .returned (.tuple #[sv q.1.1 q.1.2.2.2.length q.1.2.1, sv q.2.1.1 q.2.1.2.2.2.length q.2.1.2.1, .int .i64 q.2.2]) ∧ Hp ⟨w, []⟩ [(q.1.1, 67, flat encWood q.1.2.2.2 ++ q.1.2.2.1), (q.2.1.1, 53, flat encRepair q.2.1.2.2.2 ++ q.2.1.2.2.1)] w') := by
  refine calls_ct Try.func57 Try.ntmps57 rfl rfl ?_
  refine ct_seq ?_
  refine ct_reg ?_
  refine rl_val gw_none (ov_assign rfl) rfl ?_
  refine rl_val gw_none (ov_assign rfl) rfl ?_
  refine rl_val gw_none (ov_assign rfl) rfl ?_
  refine rl_nil ?_
  refine at_then ?_
  refine ct_seq ?_
  refine ct_reg ?_
  refine rl_val gw_none (ov_move rfl) rfl ?_
  refine rl_val gw_none (ov_build rfl (bu84_0 _ _ _)) rfl ?_
  refine rl_box rfl rfl (fun N1 => ?_)
  refine rl_val gw_none (ov_assign rfl) rfl ?_
  refine rl_nil ?_
  refine at_then ?_
  refine ct_seq ?_
  refine ct_reg ?_
  refine rl_val gw_none (ov_move rfl) rfl ?_
  refine rl_calld (ι := (Option Nat × Nat × List Value × List Wood) × Int × Int) (fun j => sv j.1.1 j.1.2.2.2.length j.1.2.1) [_] [] (fun j => [(_, 84, [_, .int .i64 j.2.1, .int .u64 j.2.2]), (j.1.1, 67, flat encWood j.1.2.2.2 ++ j.1.2.2.1)]) (fun j => (Sl 3 j.1.1 j.1.2.2.2.length j.1.2.1 (flat encWood j.1.2.2.2) j.1.2.2.1 ∧ j.1.2.2.2.length ≤ 10 ∧ (∀ y ∈ j.1.2.2.2, GWood y)) ∧ _ ≤ j.2.1 ∧ j.2.1 ≤ _ + 100) gw_none goes74 rfl (fun _ hq => (hq).pull 0 rfl) (fun w1 hp h0 => woods23_c _ _ _ _ _ _ _ _ h0 (hcd.call hp (by simp)) (by omega)) rfl (fun jw hjw => ?_)
  obtain ⟨⟨bw, cw, pw, ws⟩, tw, sw⟩ := jw
  obtain ⟨⟨hslw, hw10, hGw⟩, htw⟩ := hjw
  dsimp only at hslw hw10 hGw htw
  try dsimp only
  refine rl_val gw_none (ov_assign rfl) rfl ?_
  refine rl_nil ?_
  refine at_then ?_
  refine ct_seq ?_
  refine ct_reg ?_
  refine rl_val gw_none (ov_move rfl) rfl ?_
  refine rl_val gw_none (ov_move rfl) rfl ?_
  refine rl_calld (ι := (Option Nat × Nat × List Value × List Repair) × Int × Int) (fun j => sv j.1.1 j.1.2.2.2.length j.1.2.1) [_] [_] (fun j => [(_, 84, [_, .int .i64 j.2.1, .int .u64 j.2.2]), (j.1.1, 53, flat encRepair j.1.2.2.2 ++ j.1.2.2.1)]) (fun j => (Sl 5 j.1.1 j.1.2.2.2.length j.1.2.1 (flat encRepair j.1.2.2.2) j.1.2.2.1 ∧ j.1.2.2.2.length ≤ 12 ∧ (∀ y ∈ j.1.2.2.2, GRepair y)) ∧ _ ≤ j.2.1 ∧ j.2.1 ≤ _ + 500) gw_none goes75 rfl (fun _ hq => (hq).pull 0 rfl) (fun w1 hp h0 => repairs23_c _ _ _ _ _ _ _ _ _ _ _ h0 (hcd.call hp (by simp)) (by omega) (by omega)) rfl (fun jr hjr => ?_)
  obtain ⟨⟨br, cr, pr, xs⟩, tr, sr⟩ := jr
  obtain ⟨⟨hslr, hr12, hGr⟩, htr⟩ := hjr
  dsimp only at hslr hr12 hGr htr
  try dsimp only
  refine rl_val gw_none (ov_assign rfl) rfl ?_
  refine rl_nil ?_
  refine at_then ?_
  refine ct_seq ?_
  refine ct_reg ?_
  refine rl_val gw_none (ov_move rfl) rfl ?_
  refine rl_val gw_none (ov_move rfl) rfl ?_
  refine rl_val gw_none (ov_move rfl) rfl ?_
  refine rl_val gw_none (ov_move rfl) rfl ?_
  refine rl_calld (ι := (Int) × Int × Int) (fun j => .int .i64 j.1) [_, _] [_] (fun j => [(_, 84, [_, .int .i64 j.2.1, .int .u64 j.2.2]), (br, 53, flat encRepair xs ++ pr)]) (fun j => (In64 j.1) ∧ _ ≤ j.2.1 ∧ j.2.1 ≤ _ + 10) gw_none goes88 rfl (fun _ hq => ((hq).pull 1 rfl).pull 1 rfl) (fun w1 hp h0 => repaired_c _ _ _ _ _ _ _ _ _ _ _ _ h0 (hcd.call hp (by simp)) (by omega) hslr hGr hr12) rfl (fun jf hjf => ?_)
  obtain ⟨vf, tf, sf⟩ := jf
  dsimp only at hjf
  try dsimp only
  refine rl_val gw_none (ov_assign rfl) rfl ?_
  refine rl_val gw_none (ov_assign rfl) rfl ?_
  refine rl_val gw_none (ov_assign rfl) rfl ?_
  refine rl_nil ?_
  refine at_then ?_
  refine ct_ret ?_
  refine at_ret3 Try.results57 (ro_tmp rfl) (ro_tmp rfl) (ro_tmp rfl) (fun w1 hp => ?_)
  exact ⟨((bw, cw, pw, ws), (br, cr, pr, xs), _), ⟨⟨hslw, hw10, hGw⟩, ⟨hslr, hr12, hGr⟩, hjf.1⟩, rfl, (Hp.sub (Hp.pull (Hp.pull hp 1 rfl) 2 rfl) (List.sublist_append_left [_, _] _))⟩

theorem DrawDaysNeeded_c (a : Option Addr) (lc capc : Nat) (w : World) (hcd : CodeOk w [] a lc) : Calls Try.prog 33 ([.slice a lc capc]).toArray w (fun e w' => ∃ q : (Option Nat × Nat × List Value × List Wood) × (Option Nat × Nat × List Value × List Repair) × Int, ((Sl 3 q.1.1 q.1.2.2.2.length q.1.2.1 (flat encWood q.1.2.2.2) q.1.2.2.1 ∧ q.1.2.2.2.length ≤ 10 ∧ (∀ y ∈ q.1.2.2.2, GWood y)) ∧ (Sl 5 q.2.1.1 q.2.1.2.2.2.length q.2.1.2.1 (flat encRepair q.2.1.2.2.2) q.2.1.2.2.1 ∧ q.2.1.2.2.2.length ≤ 12 ∧ (∀ y ∈ q.2.1.2.2.2, GRepair y)) ∧ In64 q.2.2) ∧ e = .returned (.tuple #[sv q.1.1 q.1.2.2.2.length q.1.2.1, sv q.2.1.1 q.2.1.2.2.2.length q.2.1.2.1, .int .i64 q.2.2]) ∧ Hp ⟨w, []⟩ [(q.1.1, 67, flat encWood q.1.2.2.2 ++ q.1.2.2.1), (q.2.1.1, 53, flat encRepair q.2.1.2.2.2 ++ q.2.1.2.2.1)] w') := by
  refine calls_ct Try.func33 Try.ntmps33 rfl rfl ?_
  refine ct_seq ?_
  refine ct_reg ?_
  refine rl_val gw_none (ov_assign rfl) rfl ?_
  refine rl_val gw_none (ov_assign rfl) rfl ?_
  refine rl_val gw_none (ov_assign rfl) rfl ?_
  refine rl_nil ?_
  refine at_then ?_
  refine ct_seq ?_
  refine ct_reg ?_
  refine rl_val gw_none (ov_move rfl) rfl ?_
  refine rl_val gw_none (ov_build rfl (bu84_0 _ _ _)) rfl ?_
  refine rl_box rfl rfl (fun N1 => ?_)
  refine rl_val gw_none (ov_assign rfl) rfl ?_
  refine rl_nil ?_
  refine at_then ?_
  refine ct_seq ?_
  refine ct_reg ?_
  refine rl_val gw_none (ov_move rfl) rfl ?_
  refine rl_calld (ι := (Option Nat × Nat × List Value × List Wood) × Int × Int) (fun j => sv j.1.1 j.1.2.2.2.length j.1.2.1) [_] [] (fun j => [(_, 84, [_, .int .i64 j.2.1, .int .u64 j.2.2]), (j.1.1, 67, flat encWood j.1.2.2.2 ++ j.1.2.2.1)]) (fun j => (Sl 3 j.1.1 j.1.2.2.2.length j.1.2.1 (flat encWood j.1.2.2.2) j.1.2.2.1 ∧ j.1.2.2.2.length ≤ 10 ∧ (∀ y ∈ j.1.2.2.2, GWood y)) ∧ _ ≤ j.2.1 ∧ j.2.1 ≤ _ + 100) gw_none goes74 rfl (fun _ hq => (hq).pull 0 rfl) (fun w1 hp h0 => woods23_c _ _ _ _ _ _ _ _ h0 (hcd.call hp (by simp)) (by omega)) rfl (fun jw hjw => ?_)
  obtain ⟨⟨bw, cw, pw, ws⟩, tw, sw⟩ := jw
  obtain ⟨⟨hslw, hw10, hGw⟩, htw⟩ := hjw
  dsimp only at hslw hw10 hGw htw
  try dsimp only
  refine rl_val gw_none (ov_assign rfl) rfl ?_
  refine rl_nil ?_
  refine at_then ?_
  refine ct_seq ?_
  refine ct_reg ?_
  refine rl_val gw_none (ov_move rfl) rfl ?_
  refine rl_val gw_none (ov_move rfl) rfl ?_
  refine rl_calld (ι := (Option Nat × Nat × List Value × List Repair) × Int × Int) (fun j => sv j.1.1 j.1.2.2.2.length j.1.2.1) [_] [_] (fun j => [(_, 84, [_, .int .i64 j.2.1, .int .u64 j.2.2]), (j.1.1, 53, flat encRepair j.1.2.2.2 ++ j.1.2.2.1)]) (fun j => (Sl 5 j.1.1 j.1.2.2.2.length j.1.2.1 (flat encRepair j.1.2.2.2) j.1.2.2.1 ∧ j.1.2.2.2.length ≤ 12 ∧ (∀ y ∈ j.1.2.2.2, GRepair y)) ∧ _ ≤ j.2.1 ∧ j.2.1 ≤ _ + 500) gw_none goes75 rfl (fun _ hq => (hq).pull 0 rfl) (fun w1 hp h0 => repairs23_c _ _ _ _ _ _ _ _ _ _ _ h0 (hcd.call hp (by simp)) (by omega) (by omega)) rfl (fun jr hjr => ?_)
  obtain ⟨⟨br, cr, pr, xs⟩, tr, sr⟩ := jr
  obtain ⟨⟨hslr, hr12, hGr⟩, htr⟩ := hjr
  dsimp only at hslr hr12 hGr htr
  try dsimp only
  refine rl_val gw_none (ov_assign rfl) rfl ?_
  refine rl_nil ?_
  refine at_then ?_
  refine ct_seq ?_
  refine ct_reg ?_
  refine rl_val gw_none (ov_move rfl) rfl ?_
  refine rl_val gw_none (ov_move rfl) rfl ?_
  refine rl_val gw_none (ov_move rfl) rfl ?_
  refine rl_bslice Try.underlying34 ze3 sz3 rfl rfl rfl rfl rfl rfl (fun N2 => ?_)
  refine rl_val gw_none (ov_move rfl) rfl ?_
  refine rl_calld (ι := (Int) × Int × Int) (fun j => .int .i64 j.1) [_] [_, _, _] (fun j => [(_, 84, [_, .int .i64 j.2.1, .int .u64 j.2.2])]) (fun j => (0 ≤ j.1 ∧ (j.1 < _ ∨ j.1 = 0)) ∧ _ ≤ j.2.1 ∧ j.2.1 ≤ _ + 2) gw_none goes77 rfl (fun _ hq => (hq).pull 1 rfl) (fun w1 hp h0 => pick_c _ _ _ _ _ _ _ _ _ h0 (hcd.call hp (by simp)) (by omega) (by omega)) rfl (fun jp hjp => ?_)
  obtain ⟨vp, tp, sp⟩ := jp
  dsimp only at hjp
  try dsimp only
  refine rl_val gw_none (ov_quo rfl rfl (by omega) (by omega) (by omega)) rfl ?_
  refine rl_val gw_none (ov_add rfl rfl (by omega)) rfl ?_
  refine rl_val gw_none (ov_subh Try.underlying34 sz3 rfl rfl ((4 + vp / 11).toNat) (by omega) (by show _ ≤ 6; omega)) rfl ?_
  refine rl_calld (ι := (Int) × Int × Int) (fun j => .int .i64 j.1) [_, _] [_, _] (fun j => [(_, 84, [_, .int .i64 j.2.1, .int .u64 j.2.2])]) (fun j => ((-1000000) ≤ j.1 ∧ j.1 ≤ 1000000) ∧ _ ≤ j.2.1 ∧ j.2.1 ≤ _ + 2) gw_none goes76 rfl (fun _ hq => ((hq).pull 1 rfl).pull 1 rfl) (fun w1 hp h0 => among_c (-1000000) 1000000 _ _ _ _ _ _ _ _ _ _ _ _ h0 (hcd.call hp (by simp)) (by omega) (by first | rfl | decide | (simp [okIntsR]; done) | (simp [okIntsR]; omega) | (simp [okIntsR, Value.cells]; omega)) (by first | decide | (simp; done) | (simp; omega) | omega | (simp [Value.cells]; done) | (simp [Value.cells]; omega))) rfl (fun ja hja => ?_)
  obtain ⟨va, ta, sa⟩ := ja
  dsimp only at hja
  try dsimp only
  refine rl_val gw_none (ov_assign rfl) rfl ?_
  refine rl_val gw_none (ov_assign rfl) rfl ?_
  refine rl_val gw_none (ov_assign rfl) rfl ?_
  refine rl_nil ?_
  refine at_then ?_
  refine ct_ret ?_
  refine at_ret3 Try.results33 (ro_tmp rfl) (ro_tmp rfl) (ro_tmp rfl) (fun w1 hp => ?_)
  exact ⟨((bw, cw, pw, ws), (br, cr, pr, xs), va), ⟨⟨hslw, hw10, hGw⟩, ⟨hslr, hr12, hGr⟩, by unfold In64; dsimp only; omega⟩, rfl, (Hp.sub (Hp.pull (Hp.pull hp 1 rfl) 2 rfl) (List.sublist_append_left [_, _] _))⟩

theorem DrawMinutesFor_c (a : Option Addr) (lc capc : Nat) (w : World) (hcd : CodeOk w [] a lc) : Calls Try.prog 42 ([.slice a lc capc]).toArray w (fun e w' => ∃ q : (Option Nat × Nat × List Value × List Wood) × (Option Nat × Nat × List Value × List Repair) × Int, ((Sl 3 q.1.1 q.1.2.2.2.length q.1.2.1 (flat encWood q.1.2.2.2) q.1.2.2.1 ∧ q.1.2.2.2.length ≤ 10 ∧ (∀ y ∈ q.1.2.2.2, GWood y)) ∧ (Sl 5 q.2.1.1 q.2.1.2.2.2.length q.2.1.2.1 (flat encRepair q.2.1.2.2.2) q.2.1.2.2.1 ∧ q.2.1.2.2.2.length ≤ 12 ∧ (∀ y ∈ q.2.1.2.2.2, GRepair y)) ∧ In64 q.2.2) ∧ e = .returned (.tuple #[sv q.1.1 q.1.2.2.2.length q.1.2.1, sv q.2.1.1 q.2.1.2.2.2.length q.2.1.2.1, .int .i64 q.2.2]) ∧ Hp ⟨w, []⟩ [(q.1.1, 67, flat encWood q.1.2.2.2 ++ q.1.2.2.1), (q.2.1.1, 53, flat encRepair q.2.1.2.2.2 ++ q.2.1.2.2.1)] w') := by
  refine calls_ct Try.func42 Try.ntmps42 rfl rfl ?_
  refine ct_seq ?_
  refine ct_reg ?_
  refine rl_val gw_none (ov_assign rfl) rfl ?_
  refine rl_val gw_none (ov_assign rfl) rfl ?_
  refine rl_val gw_none (ov_assign rfl) rfl ?_
  refine rl_nil ?_
  refine at_then ?_
  refine ct_seq ?_
  refine ct_reg ?_
  refine rl_val gw_none (ov_move rfl) rfl ?_
  refine rl_calle (ι := (Option Nat × Nat × List Value × List Wood) × (Option Nat × Nat × List Value × List Repair) × Int) (fun q => .tuple #[sv q.1.1 q.1.2.2.2.length q.1.2.1, sv q.2.1.1 q.2.1.2.2.2.length q.2.1.2.1, .int .i64 q.2.2]) (fun q => [(q.1.1, 67, flat encWood q.1.2.2.2 ++ q.1.2.2.1), (q.2.1.1, 53, flat encRepair q.2.1.2.2.2 ++ q.2.1.2.2.1)]) (fun q => (Sl 3 q.1.1 q.1.2.2.2.length q.1.2.1 (flat encWood q.1.2.2.2) q.1.2.2.1 ∧ q.1.2.2.2.length ≤ 10 ∧ (∀ y ∈ q.1.2.2.2, GWood y)) ∧ (Sl 5 q.2.1.1 q.2.1.2.2.2.length q.2.1.2.1 (flat encRepair q.2.1.2.2.2) q.2.1.2.2.1 ∧ q.2.1.2.2.2.length ≤ 12 ∧ (∀ y ∈ q.2.1.2.2.2, GRepair y)) ∧ In64 q.2.2) goes57 rfl (fun w1 hp => DrawCostOf_c _ _ _ _ (hcd.call hp (E := []) (by simp))) rfl (fun qd hqd => ?_)
  refine rl_val gw_none (ov_extract rfl rfl) rfl ?_
  refine rl_val gw_none (ov_extract rfl rfl) rfl ?_
  refine rl_val gw_none (ov_extract rfl rfl) rfl ?_
  refine rl_val gw_none (ov_assign rfl) rfl ?_
  refine rl_val gw_none (ov_assign rfl) rfl ?_
  refine rl_val gw_none (ov_assign rfl) rfl ?_
  refine rl_nil ?_
  refine at_then ?_
  refine ct_ret ?_
  refine at_ret3 Try.results42 (ro_tmp rfl) (ro_tmp rfl) (ro_tmp rfl) (fun w1 hp => ?_)
  exact ⟨qd, hqd, rfl, (Hp.sub (Hp.pull (Hp.pull hp 1 rfl) 1 rfl) (List.sublist_append_left [_, _] _))⟩
end Go.Proofs.Ytaajkamfeaafpaa
