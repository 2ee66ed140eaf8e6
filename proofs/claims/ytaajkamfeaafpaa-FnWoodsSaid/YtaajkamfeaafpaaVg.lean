import Derived.Test.YtaajkamfeaafpaaVf
import Derived.KernelRfl
set_option linter.unusedVariables false
set_option linter.unusedSimpArgs false
namespace Go.Proofs.Ytaajkamfeaafpaa
open Go Go.RowKit K
theorem DrawReplaceWood_c (a : Option Addr) (lc capc : Nat) (w : World) (hcd : CodeOk w [] a lc) : Calls Try.prog 52 ([.slice a lc capc]).toArray w (fun e w' => ∃ q : (Option Nat × Nat × List Value × List Wood) × (Option Nat × Nat × List Value × List Repair) × Int × Int, ((Sl 3 q.1.1 q.1.2.2.2.length q.1.2.1 (flat encWood q.1.2.2.2) q.1.2.2.1 ∧ q.1.2.2.2.length ≤ 10 ∧ (∀ y ∈ q.1.2.2.2, GWood y)) ∧ (Sl 5 q.2.1.1 q.2.1.2.2.2.length q.2.1.2.1 (flat encRepair q.2.1.2.2.2) q.2.1.2.2.1 ∧ q.2.1.2.2.2.length ≤ 12 ∧ (∀ y ∈ q.2.1.2.2.2, GRepair y)) ∧ In64 q.2.2.1 ∧ In64 q.2.2.2) ∧ e = .returned (.tuple #[sv q.1.1 q.1.2.2.2.length q.1.2.1, sv q.2.1.1 q.2.1.2.2.2.length q.2.1.2.1, .int .i64 q.2.2.1, .int .i64 q.2.2.2]) ∧ Hp ⟨w, []⟩ [(q.1.1, 67, flat encWood q.1.2.2.2 ++ q.1.2.2.1), (q.2.1.1, 53, flat encRepair q.2.1.2.2.2 ++ q.2.1.2.2.1)] w') := by
  refine calls_ct Try.func52 Try.ntmps52 rfl rfl ?_
  refine ct_seq ?_
  refine ct_reg ?_
  refine rl_val gw_none (ov_assign rfl) rfl ?_
  refine rl_val gw_none (ov_assign rfl) rfl ?_
  refine rl_val gw_none (ov_assign rfl) rfl ?_
  refine rl_val gw_none (ov_assign rfl) rfl ?_
  refine rl_nil ?_
  refine at_then ?_
  refine ct_seq ?_
  refine ct_reg ?_
  refine rl_val gw_none (ov_move rfl) rfl ?_
  refine rl_val gw_none (ov_build rfl (bu84_0 _ _ _)) rfl ?_
  refine rl_box rfl rfl (fun N1 => ?_)
  refine rl_val gw_none (ov_assign rfl) rfl ?_
  refine rl_nil ?_
  refine at_then ?_
  refine ct_seq ?_
  refine ct_reg ?_
  refine rl_val gw_none (ov_move rfl) rfl ?_
  refine rl_calld (ι := (Option Nat × Nat × List Value × List Wood) × Int × Int) (fun j => sv j.1.1 j.1.2.2.2.length j.1.2.1) [_] [] (fun j => [(_, 84, [_, .int .i64 j.2.1, .int .u64 j.2.2]), (j.1.1, 67, flat encWood j.1.2.2.2 ++ j.1.2.2.1)]) (fun j => (Sl 3 j.1.1 j.1.2.2.2.length j.1.2.1 (flat encWood j.1.2.2.2) j.1.2.2.1 ∧ j.1.2.2.2.length ≤ 10 ∧ (∀ y ∈ j.1.2.2.2, GWood y)) ∧ _ ≤ j.2.1 ∧ j.2.1 ≤ _ + 100) gw_none goes74 rfl (fun _ hq => (hq).pull 0 rfl) (fun w1 hp h0 => woods23_c _ _ _ _ _ _ _ _ h0 (hcd.call hp (by simp)) (by omega)) rfl (fun jw hjw => ?_)
  obtain ⟨⟨bw, cw, pw, ws⟩, tw, sw⟩ := jw
  obtain ⟨⟨hslw, hw10, hGw⟩, htw⟩ := hjw
  dsimp only at hslw hw10 hGw htw
  try dsimp only
  refine rl_val gw_none (ov_assign rfl) rfl ?_
  refine rl_nil ?_
  refine at_then ?_
  refine ct_seq ?_
  refine ct_reg ?_
  refine rl_val gw_none (ov_move rfl) rfl ?_
  refine rl_val gw_none (ov_move rfl) rfl ?_
  refine rl_calld (ι := (Option Nat × Nat × List Value × List Repair) × Int × Int) (fun j => sv j.1.1 j.1.2.2.2.length j.1.2.1) [_] [_] (fun j => [(_, 84, [_, .int .i64 j.2.1, .int .u64 j.2.2]), (j.1.1, 53, flat encRepair j.1.2.2.2 ++ j.1.2.2.1)]) (fun j => (Sl 5 j.1.1 j.1.2.2.2.length j.1.2.1 (flat encRepair j.1.2.2.2) j.1.2.2.1 ∧ j.1.2.2.2.length ≤ 12 ∧ (∀ y ∈ j.1.2.2.2, GRepair y)) ∧ _ ≤ j.2.1 ∧ j.2.1 ≤ _ + 500) gw_none goes75 rfl (fun _ hq => (hq).pull 0 rfl) (fun w1 hp h0 => repairs23_c _ _ _ _ _ _ _ _ _ _ _ h0 (hcd.call hp (by simp)) (by omega) (by omega)) rfl (fun jr hjr => ?_)
  obtain ⟨⟨br, cr, pr, xs⟩, tr, sr⟩ := jr
  obtain ⟨⟨hslr, hr12, hGr⟩, htr⟩ := hjr
  dsimp only at hslr hr12 hGr htr
  try dsimp only
  refine rl_val gw_none (ov_assign rfl) rfl ?_
  refine rl_nil ?_
  refine at_then ?_
  refine ct_seq ?_
  refine ct_reg ?_
  refine rl_val gw_none (ov_move rfl) rfl ?_
  refine rl_val gw_none (ov_move rfl) rfl ?_
  refine rl_val gw_none (ov_move rfl) rfl ?_
  refine rl_val gw_none (ov_move rfl) rfl ?_
  refine rl_val gw_none (ov_len Try.underlying25 rfl) rfl ?_
  refine rl_val gw_none (ov_add rfl rfl (by omega)) rfl ?_
  refine rl_calld (ι := (Int) × Int × Int) (fun j => .int .i64 j.1) [_] [_, _] (fun j => [(_, 84, [_, .int .i64 j.2.1, .int .u64 j.2.2])]) (fun j => (0 ≤ j.1 ∧ (j.1 < _ ∨ j.1 = 0)) ∧ _ ≤ j.2.1 ∧ j.2.1 ≤ _ + 2) gw_none goes77 rfl (fun _ hq => (hq).pull 0 rfl) (fun w1 hp h0 => pick_c _ _ _ _ _ _ _ _ _ h0 (hcd.call hp (by simp)) (by omega) (by omega)) rfl (fun jx hjx => ?_)
  obtain ⟨vx, tx, sx⟩ := jx
  dsimp only at hjx
  try dsimp only
  refine rl_val gw_none (ov_move rfl) rfl ?_
  refine rl_calld (ι := (Int) × Int × Int) (fun j => .int .i64 j.1) [_] [_, _] (fun j => [(_, 84, [_, .int .i64 j.2.1, .int .u64 j.2.2])]) (fun j => (0 ≤ j.1 ∧ (j.1 < _ ∨ j.1 = 0)) ∧ _ ≤ j.2.1 ∧ j.2.1 ≤ _ + 2) gw_none goes77 rfl (fun _ hq => (hq).pull 0 rfl) (fun w1 hp h0 => pick_c _ _ _ _ _ _ _ _ _ h0 (hcd.call hp (by simp)) (by omega) (by omega)) rfl (fun jy hjy => ?_)
  obtain ⟨vy, ty, sy⟩ := jy
  dsimp only at hjy
  try dsimp only
  refine rl_val gw_none (ov_quo rfl rfl (by omega) (by omega) (by omega)) rfl ?_
  refine rl_val gw_none (ov_sub rfl rfl (by omega)) rfl ?_
  refine rl_val gw_none (ov_move rfl) rfl ?_
  refine rl_val gw_none (ov_move rfl) rfl ?_
  refine rl_val gw_none (ov_len Try.underlying25 rfl) rfl ?_
  refine rl_val gw_none (ov_add rfl rfl (by omega)) rfl ?_
  refine rl_calld (ι := (Int) × Int × Int) (fun j => .int .i64 j.1) [_] [_, _] (fun j => [(_, 84, [_, .int .i64 j.2.1, .int .u64 j.2.2])]) (fun j => (0 ≤ j.1 ∧ (j.1 < _ ∨ j.1 = 0)) ∧ _ ≤ j.2.1 ∧ j.2.1 ≤ _ + 2) gw_none goes77 rfl (fun _ hq => (hq).pull 0 rfl) (fun w1 hp h0 => pick_c _ _ _ _ _ _ _ _ _ h0 (hcd.call hp (by simp)) (by omega) (by omega)) rfl (fun jz hjz => ?_)
  obtain ⟨vz, tz, sz⟩ := jz
  dsimp only at hjz
  try dsimp only
  refine rl_val gw_none (ov_assign rfl) rfl ?_
  refine rl_val gw_none (ov_assign rfl) rfl ?_
  refine rl_val gw_none (ov_assign rfl) rfl ?_
  refine rl_val gw_none (ov_assign rfl) rfl ?_
  refine rl_nil ?_
  refine at_then ?_
  refine ct_ret ?_
  refine at_ret4 Try.results52 (ro_tmp rfl) (ro_tmp rfl) (ro_tmp rfl) (ro_tmp rfl) (fun w1 hp => ?_)
  exact ⟨((bw, cw, pw, ws), (br, cr, pr, xs), _, _), ⟨⟨hslw, hw10, hGw⟩, ⟨hslr, hr12, hGr⟩, by unfold In64; dsimp only; omega, by unfold In64; dsimp only; omega⟩, rfl, (Hp.sub (Hp.pull (Hp.pull hp 1 rfl) 2 rfl) (List.sublist_append_left [_, _] _))⟩

theorem DrawAreRepairs_c (a : Option Addr) (lc capc : Nat) (w : World) (hcd : CodeOk w [] a lc) : Calls Try.prog 87 ([.slice a lc capc]).toArray w (fun e w' => ∃ q : (Option Nat × Nat × List Value × List Wood) × (Option Nat × Nat × List Value × List Repair), ((Sl 3 q.1.1 q.1.2.2.2.length q.1.2.1 (flat encWood q.1.2.2.2) q.1.2.2.1 ∧ q.1.2.2.2.length ≤ 10 ∧ (∀ y ∈ q.1.2.2.2, GWood y)) ∧ (Sl 5 q.2.1 q.2.2.2.2.length q.2.2.1 (flat encRepair q.2.2.2.2) q.2.2.2.1 ∧ q.2.2.2.2.length ≤ 12 ∧ (∀ y ∈ q.2.2.2.2, GRepair y))) ∧ e = .returned (.tuple #[sv q.1.1 q.1.2.2.2.length q.1.2.1, sv q.2.1 q.2.2.2.2.length q.2.2.1]) ∧ Hp ⟨w, []⟩ [(q.1.1, 67, flat encWood q.1.2.2.2 ++ q.1.2.2.1), (q.2.1, 53, flat encRepair q.2.2.2.2 ++ q.2.2.2.1)] w') := by
  refine calls_ct Try.func87 Try.ntmps87 rfl rfl ?_
  refine ct_seq ?_
  refine ct_reg ?_
  refine rl_val gw_none (ov_assign rfl) rfl ?_
  refine rl_val gw_none (ov_assign rfl) rfl ?_
  refine rl_nil ?_
  refine at_then ?_
  refine ct_seq ?_
  refine ct_reg ?_
  refine rl_val gw_none (ov_move rfl) rfl ?_
  refine rl_val gw_none (ov_build rfl (bu84_0 _ _ _)) rfl ?_
  refine rl_box rfl rfl (fun N1 => ?_)
  refine rl_val gw_none (ov_assign rfl) rfl ?_
  refine rl_nil ?_
  refine at_then ?_
  refine ct_seq ?_
  refine ct_reg ?_
  refine rl_val gw_none (ov_move rfl) rfl ?_
  refine rl_calld (ι := (Option Nat × Nat × List Value × List Wood) × Int × Int) (fun j => sv j.1.1 j.1.2.2.2.length j.1.2.1) [_] [] (fun j => [(_, 84, [_, .int .i64 j.2.1, .int .u64 j.2.2]), (j.1.1, 67, flat encWood j.1.2.2.2 ++ j.1.2.2.1)]) (fun j => (Sl 3 j.1.1 j.1.2.2.2.length j.1.2.1 (flat encWood j.1.2.2.2) j.1.2.2.1 ∧ j.1.2.2.2.length ≤ 10 ∧ (∀ y ∈ j.1.2.2.2, GWood y)) ∧ _ ≤ j.2.1 ∧ j.2.1 ≤ _ + 100) gw_none goes74 rfl (fun _ hq => (hq).pull 0 rfl) (fun w1 hp h0 => woods23_c _ _ _ _ _ _ _ _ h0 (hcd.call hp (by simp)) (by omega)) rfl (fun jw hjw => ?_)
  obtain ⟨⟨bw, cw, pw, ws⟩, tw, sw⟩ := jw
  obtain ⟨⟨hslw, hw10, hGw⟩, htw⟩ := hjw
  dsimp only at hslw hw10 hGw htw
  try dsimp only
  refine rl_val gw_none (ov_assign rfl) rfl ?_
  refine rl_nil ?_
  refine at_then ?_
  refine ct_seq ?_
  refine ct_reg ?_
  refine rl_val gw_none (ov_move rfl) rfl ?_
  refine rl_val gw_none (ov_move rfl) rfl ?_
  refine rl_val gw_none (ov_move rfl) rfl ?_
  refine rl_calld (ι := (Option Nat × Nat × List Value × List Repair) × Int × Int) (fun j => sv j.1.1 j.1.2.2.2.length j.1.2.1) [_] [_] (fun j => [(_, 84, [_, .int .i64 j.2.1, .int .u64 j.2.2]), (j.1.1, 53, flat encRepair j.1.2.2.2 ++ j.1.2.2.1)]) (fun j => (Sl 5 j.1.1 j.1.2.2.2.length j.1.2.1 (flat encRepair j.1.2.2.2) j.1.2.2.1 ∧ j.1.2.2.2.length ≤ 12 ∧ (∀ y ∈ j.1.2.2.2, GRepair y)) ∧ _ ≤ j.2.1 ∧ j.2.1 ≤ _ + 500) gw_none goes75 rfl (fun _ hq => (hq).pull 0 rfl) (fun w1 hp h0 => repairs23_c _ _ _ _ _ _ _ _ _ _ _ h0 (hcd.call hp (by simp)) (by omega) (by omega)) rfl (fun jr hjr => ?_)
  obtain ⟨⟨br, cr, pr, xs⟩, tr, sr⟩ := jr
  obtain ⟨⟨hslr, hr12, hGr⟩, htr⟩ := hjr
  dsimp only at hslr hr12 hGr htr
  try dsimp only
  refine rl_val gw_none (ov_assign rfl) rfl ?_
  refine rl_val gw_none (ov_assign rfl) rfl ?_
  refine rl_nil ?_
  refine at_then ?_
  refine ct_ret ?_
  refine at_ret2 Try.results87 (ro_tmp rfl) (ro_tmp rfl) (fun w1 hp => ?_)
  exact ⟨((bw, cw, pw, ws), (br, cr, pr, xs)), ⟨⟨hslw, hw10, hGw⟩, ⟨hslr, hr12, hGr⟩⟩, rfl, (Hp.sub (Hp.pull (Hp.pull hp 1 rfl) 2 rfl) (List.sublist_append_left [_, _] _))⟩

theorem DrawBeadsOfWood_c (a : Option Addr) (lc capc : Nat) (w : World) (hcd : CodeOk w [] a lc) : Calls Try.prog 54 ([.slice a lc capc]).toArray w (fun e w' => ∃ q : (Option Nat × Nat × List Value × List Wood) × (Option Nat × Nat × List Value × List Repair), ((Sl 3 q.1.1 q.1.2.2.2.length q.1.2.1 (flat encWood q.1.2.2.2) q.1.2.2.1 ∧ q.1.2.2.2.length ≤ 10 ∧ (∀ y ∈ q.1.2.2.2, GWood y)) ∧ (Sl 5 q.2.1 q.2.2.2.2.length q.2.2.1 (flat encRepair q.2.2.2.2) q.2.2.2.1 ∧ q.2.2.2.2.length ≤ 12 ∧ (∀ y ∈ q.2.2.2.2, GRepair y))) ∧ e = .returned (.tuple #[sv q.1.1 q.1.2.2.2.length q.1.2.1, sv q.2.1 q.2.2.2.2.length q.2.2.1]) ∧ Hp ⟨w, []⟩ [(q.1.1, 67, flat encWood q.1.2.2.2 ++ q.1.2.2.1), (q.2.1, 53, flat encRepair q.2.2.2.2 ++ q.2.2.2.1)] w') := by
  refine calls_ct Try.func54 Try.ntmps54 rfl rfl ?_
  refine ct_seq ?_
  refine ct_reg ?_
  refine rl_val gw_none (ov_assign rfl) rfl ?_
  refine rl_val gw_none (ov_assign rfl) rfl ?_
  refine rl_nil ?_
  refine at_then ?_
  refine ct_seq ?_
  refine ct_reg ?_
  refine rl_val gw_none (ov_move rfl) rfl ?_
  refine rl_calle (ι := (Option Nat × Nat × List Value × List Wood) × (Option Nat × Nat × List Value × List Repair)) (fun q => .tuple #[sv q.1.1 q.1.2.2.2.length q.1.2.1, sv q.2.1 q.2.2.2.2.length q.2.2.1]) (fun q => [(q.1.1, 67, flat encWood q.1.2.2.2 ++ q.1.2.2.1), (q.2.1, 53, flat encRepair q.2.2.2.2 ++ q.2.2.2.1)]) (fun q => (Sl 3 q.1.1 q.1.2.2.2.length q.1.2.1 (flat encWood q.1.2.2.2) q.1.2.2.1 ∧ q.1.2.2.2.length ≤ 10 ∧ (∀ y ∈ q.1.2.2.2, GWood y)) ∧ (Sl 5 q.2.1 q.2.2.2.2.length q.2.2.1 (flat encRepair q.2.2.2.2) q.2.2.2.1 ∧ q.2.2.2.2.length ≤ 12 ∧ (∀ y ∈ q.2.2.2.2, GRepair y))) goes87 rfl (fun w1 hp => DrawAreRepairs_c _ _ _ _ (hcd.call hp (E := []) (by simp))) rfl (fun qd hqd => ?_)
  refine rl_val gw_none (ov_extract rfl rfl) rfl ?_
  refine rl_val gw_none (ov_extract rfl rfl) rfl ?_
  refine rl_val gw_none (ov_assign rfl) rfl ?_
  refine rl_val gw_none (ov_assign rfl) rfl ?_
  refine rl_nil ?_
  refine at_then ?_
  refine ct_ret ?_
  refine at_ret2 Try.results54 (ro_tmp rfl) (ro_tmp rfl) (fun w1 hp => ?_)
  exact ⟨qd, hqd, rfl, (Hp.sub (Hp.pull (Hp.pull hp 1 rfl) 1 rfl) (List.sublist_append_left [_, _] _))⟩

theorem DrawCheapestWood_c (a : Option Addr) (lc capc : Nat) (w : World) (hcd : CodeOk w [] a lc) : Calls Try.prog 56 ([.slice a lc capc]).toArray w (fun e w' => ∃ q : (Option Nat × Nat × List Value × List Wood) × Int, ((Sl 3 q.1.1 q.1.2.2.2.length q.1.2.1 (flat encWood q.1.2.2.2) q.1.2.2.1 ∧ q.1.2.2.2.length ≤ 10 ∧ (∀ y ∈ q.1.2.2.2, GWood y)) ∧ In64 q.2) ∧ e = .returned (.tuple #[sv q.1.1 q.1.2.2.2.length q.1.2.1, .int .i64 q.2]) ∧ Hp ⟨w, []⟩ [(q.1.1, 67, flat encWood q.1.2.2.2 ++ q.1.2.2.1)] w') := by
  refine calls_ct Try.func56 Try.ntmps56 rfl rfl ?_
  refine ct_seq ?_
  refine ct_reg ?_
  refine rl_val gw_none (ov_assign rfl) rfl ?_
  refine rl_val gw_none (ov_assign rfl) rfl ?_
  refine rl_nil ?_
  refine at_then ?_
  refine ct_seq ?_
  refine ct_reg ?_
  refine rl_val gw_none (ov_move rfl) rfl ?_
  refine rl_val gw_none (ov_build rfl (bu84_0 _ _ _)) rfl ?_
  refine rl_box rfl rfl (fun N1 => ?_)
  refine rl_val gw_none (ov_assign rfl) rfl ?_
  refine rl_nil ?_
  refine at_then ?_
  refine ct_seq ?_
  refine ct_reg ?_
  refine rl_val gw_none (ov_move rfl) rfl ?_
  refine rl_calld (ι := (Option Nat × Nat × List Value × List Wood) × Int × Int) (fun j => sv j.1.1 j.1.2.2.2.length j.1.2.1) [_] [] (fun j => [(_, 84, [_, .int .i64 j.2.1, .int .u64 j.2.2]), (j.1.1, 67, flat encWood j.1.2.2.2 ++ j.1.2.2.1)]) (fun j => (Sl 3 j.1.1 j.1.2.2.2.length j.1.2.1 (flat encWood j.1.2.2.2) j.1.2.2.1 ∧ j.1.2.2.2.length ≤ 10 ∧ (∀ y ∈ j.1.2.2.2, GWood y)) ∧ _ ≤ j.2.1 ∧ j.2.1 ≤ _ + 100) gw_none goes74 rfl (fun _ hq => (hq).pull 0 rfl) (fun w1 hp h0 => woods23_c _ _ _ _ _ _ _ _ h0 (hcd.call hp (by simp)) (by omega)) rfl (fun jw hjw => ?_)
  obtain ⟨⟨bw, cw, pw, ws⟩, tw, sw⟩ := jw
  obtain ⟨⟨hslw, hw10, hGw⟩, htw⟩ := hjw
  dsimp only at hslw hw10 hGw htw
  try dsimp only
  refine rl_val gw_none (ov_assign rfl) rfl ?_
  refine rl_nil ?_
  refine at_then ?_
  refine ct_seq ?_
  refine ct_reg ?_
  refine rl_val gw_none (ov_move rfl) rfl ?_
  refine rl_val gw_none (ov_move rfl) rfl ?_
  refine rl_bslice Try.underlying34 ze3 sz3 rfl rfl rfl rfl rfl rfl (fun N2 => ?_)
  refine rl_val gw_none (ov_move rfl) rfl ?_
  refine rl_calld (ι := (Int) × Int × Int) (fun j => .int .i64 j.1) [_] [_, _] (fun j => [(_, 84, [_, .int .i64 j.2.1, .int .u64 j.2.2])]) (fun j => (0 ≤ j.1 ∧ (j.1 < _ ∨ j.1 = 0)) ∧ _ ≤ j.2.1 ∧ j.2.1 ≤ _ + 2) gw_none goes77 rfl (fun _ hq => (hq).pull 1 rfl) (fun w1 hp h0 => pick_c _ _ _ _ _ _ _ _ _ h0 (hcd.call hp (by simp)) (by omega) (by omega)) rfl (fun jp hjp => ?_)
  obtain ⟨vp, tp, sp⟩ := jp
  dsimp only at hjp
  try dsimp only
  refine rl_val gw_none (ov_quo rfl rfl (by omega) (by omega) (by omega)) rfl ?_
  refine rl_val gw_none (ov_add rfl rfl (by omega)) rfl ?_
  refine rl_val gw_none (ov_subh Try.underlying34 sz3 rfl rfl ((5 + vp / 11).toNat) (by omega) (by show _ ≤ 7; omega)) rfl ?_
  refine rl_calld (ι := (Int) × Int × Int) (fun j => .int .i64 j.1) [_, _] [_] (fun j => [(_, 84, [_, .int .i64 j.2.1, .int .u64 j.2.2])]) (fun j => ((-1000000) ≤ j.1 ∧ j.1 ≤ 1000000) ∧ _ ≤ j.2.1 ∧ j.2.1 ≤ _ + 2) gw_none goes76 rfl (fun _ hq => ((hq).pull 1 rfl).pull 1 rfl) (fun w1 hp h0 => among_c (-1000000) 1000000 _ _ _ _ _ _ _ _ _ _ _ _ h0 (hcd.call hp (by simp)) (by omega) (by first | rfl | decide | (simp [okIntsR]; done) | (simp [okIntsR]; omega) | (simp [okIntsR, Value.cells]; omega)) (by first | decide | (simp; done) | (simp; omega) | omega | (simp [Value.cells]; done) | (simp [Value.cells]; omega))) rfl (fun ja hja => ?_)
  obtain ⟨va, ta, sa⟩ := ja
  dsimp only at hja
  try dsimp only
  refine rl_val gw_none (ov_assign rfl) rfl ?_
  refine rl_val gw_none (ov_assign rfl) rfl ?_
  refine rl_nil ?_
  refine at_then ?_
  refine ct_ret ?_
  refine at_ret2 Try.results56 (ro_tmp rfl) (ro_tmp rfl) (fun w1 hp => ?_)
  exact ⟨((bw, cw, pw, ws), va), ⟨⟨hslw, hw10, hGw⟩, by unfold In64; dsimp only; omega⟩, rfl, (Hp.sub (Hp.pull hp 1 rfl) (List.sublist_append_left [_] _))⟩
end Go.Proofs.Ytaajkamfeaafpaa
