import Derived.Test.YtnnhkpecgchgiaaZb
import Derived.KernelRfl
set_option linter.unusedVariables false
set_option linter.unusedSimpArgs false
namespace Go.Proofs.Ytnnhkpecgchgiaa
open Go Go.RowKit K
structure MR where
  u : Int
  l : Int
  xs : List IntA2
  cl : List Int
  im : List Int
def nmR (u l : Int) (xs : List IntA2) : MR := if goodB u l xs = true then ⟨u, l, xs, List.replicate xs.length 5, digL (numF xs) xs.length⟩ else ⟨0, 0, [], [], []⟩
theorem nmR_yes {u l : Int} {xs : List IntA2} (h : goodB u l xs = true) : nmR u l xs = ⟨u, l, xs, List.replicate xs.length 5, digL (numF xs) xs.length⟩ := by rw [nmR, if_pos h]
theorem nmR_no {u l : Int} {xs : List IntA2} (h : goodB u l xs = false) : nmR u l xs = ⟨0, 0, [], [], []⟩ := by rw [nmR, if_neg (by rw [h]; simp)]

theorem iNewMind_c (u : Int) (l : Int) (xs : List IntA2) (vxs : Value) (w : World) (zu : In64 u) (zl : In64 l) (hGxs : ∀ y ∈ xs, GIntA2 y) (hsxs : SR w 2 vxs xs.length (flat encIntA2 xs)) : Calls Try.prog 18 ([.agg (List.toArray (α := Value) [.int .i64 u, .int .i64 l, vxs])]).toArray w (fun e w' => ∃ q : (Option Nat × Nat × List Value) × (Option Nat × Nat × List Value) × (Option Nat × Nat × List Value), (Sl 2 q.1.1 (nmR u l xs).xs.length q.1.2.1 (flat encIntA2 (nmR u l xs).xs) q.1.2.2 ∧ Sl 1 q.2.1.1 (nmR u l xs).cl.length q.2.1.2.1 (ints (nmR u l xs).cl) q.2.1.2.2 ∧ Sl 1 q.2.2.1 (nmR u l xs).im.length q.2.2.2.1 (ints (nmR u l xs).im) q.2.2.2.2) ∧ e = .returned (.tuple #[.agg (List.toArray (α := Value) [.int .i64 (nmR u l xs).u, .int .i64 (nmR u l xs).l, sv q.1.1 (nmR u l xs).xs.length q.1.2.1, sv q.2.1.1 (nmR u l xs).cl.length q.2.1.2.1, sv q.2.2.1 (nmR u l xs).im.length q.2.2.2.1, .int .i64 0, .int .i64 0]), .bool (goodB u l xs)]) ∧ Hp ⟨w, []⟩ [(q.1.1, 81, flat encIntA2 (nmR u l xs).xs ++ q.1.2.2), (q.2.1.1, 3, ints (nmR u l xs).cl ++ q.2.1.2.2), (q.2.2.1, 3, ints (nmR u l xs).im ++ q.2.2.2.2)] w') := by
  obtain ⟨axs, capxs, rfl, hcapxs, hmaxxs⟩ := hsxs.slice
  have hlenxs := hsxs.len_le
  refine calls_ct Try.func18 Try.ntmps18 rfl rfl ?_
  refine ct_seq ?_
  refine ct_reg ?_
  refine rl_box rfl rfl (fun N1 => ?_)
  refine rl_alloc ze29 rfl (fun N2 => ?_)
  refine rl_val gw_none (ov_assign rfl) rfl ?_
  refine rl_nil ?_
  refine at_then ?_
  refine ct_seq ?_
  refine ct_seq ?_
  refine ct_reg ?_
  first | refine rl_val gw_none (ov_loadall 1 ag26 rfl rfl rfl) rfl ?_ | refine rl_val gw_none (ov_loadp 1 ag26 rfl rfl (vs := [_, _, _]) rfl rfl) rfl ?_ | refine rl_val gw_none (ov_loada 1 ag26 rfl rfl rfl (by assumption)) rfl ?_
  refine rl_callx (ι := Value) (fun p => .tuple #[p, .bool (goodB u l xs)]) (fun _ => True) gw_none goes77 rfl (fun w1 hp => begin_x u l xs _ _ zu zl hGxs (hsxs.ext hp.ext0)) rfl (fun pb _ => ?_)
  refine rl_val gw_none (ov_move rfl) rfl ?_
  refine rl_val gw_none (ov_extract rfl rfl) rfl ?_
  refine rl_val gw_none (ov_extract rfl rfl) rfl ?_
  refine rl_val gw_none (ov_assign rfl) rfl ?_
  refine rl_val gw_none (ov_assign rfl) rfl ?_
  refine rl_nil ?_
  refine at_then ?_
  refine ct_seq ?_
  refine ct_reg ?_
  refine rl_val gw_none (ov_move rfl) rfl ?_
  refine rl_val gw_none (ov_not rfl) rfl ?_
  refine rl_nil ?_
  refine at_then ?_
  first | refine ct_dec rfl (fun h1 => ?_) (fun h1 => ?_) | refine ct_ndec rfl (fun h1 => ?_) (fun h1 => ?_) | refine ct_eq rfl (fun h1 => ?_) (fun h1 => ?_) | refine ct_ne rfl (fun h1 => ?_) (fun h1 => ?_) | refine ct_not rfl (fun h1 => ?_) (fun h1 => ?_) | refine ct_cond rfl (fun h1 => ?_) (fun h1 => ?_)
  ·
    rw [nmR_no (show goodB u l xs = false by simpa using h1)]
    rw [show goodB u l xs = false by simpa using h1] at *
    refine ct_seq ?_
    refine ct_reg ?_
    refine rl_val gw_none (ov_build rfl (bu29_)) rfl ?_
    refine rl_store [] sz29 rfl rfl rfl rfl rfl (Nat.le_of_ble_eq_true rfl) ?_
    refine rl_val gw_none (ov_assign rfl) rfl ?_
    refine rl_nil ?_
    refine at_then ?_
    refine ct_ret ?_
    refine at_then_ret ?_
    refine at_ret2 Try.results18 (ro_cell 0 ag29 rfl rfl rfl) (ro_tmp rfl) (fun w1 hp => ?_)
    exact ⟨((none, 0, []), (none, 0, []), (none, 0, [])), ⟨Sl.nil0 _, Sl.nil0 _, Sl.nil0 _⟩, rfl, ((((hp.sub (List.nil_sublist _)).nil 3).nil 3).nil 81).cong rfl⟩
  ·
    have hg : goodB u l xs = true := by simpa using h1
    have h8 := (frameB_ul (goodB_f hg)).2.2.2
    have hl1 := (frameB_ul (goodB_f hg)).2.2.1
    have hil : (digL (numF xs) xs.length).length = xs.length := digL_len _ _
    have hcl : (List.replicate xs.length (5 : Int)).length = xs.length := List.length_replicate
    refine ct_skip ?_
    refine at_then ?_
    refine ct_seq ?_
    refine ct_reg ?_
    first | refine rl_val gw_none (ov_loadall 1 ag26 rfl rfl rfl) rfl ?_ | refine rl_val gw_none (ov_loadp 1 ag26 rfl rfl (vs := [_, _, _]) rfl rfl) rfl ?_ | refine rl_val gw_none (ov_loada 1 ag26 rfl rfl rfl (by assumption)) rfl ?_
    refine rl_callsl (ι := Nat × List Value) (fun i bo => .agg [.int .i64 u, .int .i64 l, sv bo (xs).length i.1].toArray) (fun i => flat encIntA2 (xs) ++ i.2) (fun i bo => Sl 2 bo (xs).length i.1 (flat encIntA2 (xs)) i.2) goes78 rfl (fun w1 hp => own_c u l xs _ _ zu zl hGxs (hsxs.ext hp.ext0) h8) rfl (fun iow boow hsow => ?_)
    obtain ⟨bow, rfl⟩ := Sl.some hsow (by omega)
    refine rl_val gw_none (ov_build rfl (bu29_0 _ _ _ _ _)) rfl ?_
    refine rl_calle (ι := (Nat × Nat × List Value) × (Nat × Nat × List Value)) (fun q => .agg (List.toArray (α := Value) [.int .i64 u, .int .i64 l, sv (some bow) xs.length iow.1, sv (some q.1.1) xs.length q.1.2.1, sv (some q.2.1) xs.length q.2.2.1, .int .i64 0, .int .i64 0])) (fun q => [(some q.1.1, 3, ints (List.replicate xs.length (5 : Int)) ++ q.1.2.2), (some q.2.1, 3, ints (digL (numF xs) xs.length) ++ q.2.2.2)]) (fun q => Sl 1 (some q.1.1) xs.length q.1.2.1 (ints (List.replicate xs.length (5 : Int))) q.1.2.2 ∧ Sl 1 (some q.2.1) xs.length q.2.2.1 (ints (digL (numF xs) xs.length)) q.2.2.2) goes79 rfl (fun w1 hp => looked_c u l xs _ _ zu zl hGxs (hp.slsr 0 rfl hsow) hg) rfl (fun qd hqd => ?_)
    refine rl_store [_, _, _] sz29 rfl rfl rfl rfl rfl (Nat.le_of_ble_eq_true rfl) ?_
    refine rl_val gw_none (ov_assign rfl) rfl ?_
    refine rl_nil ?_
    refine at_then ?_
    refine ct_ret ?_
    refine at_ret2 Try.results18 (ro_cell 3 ag29 rfl rfl rfl) (ro_tmp rfl) (fun w1 hp => ?_)
    rw [nmR_yes hg]
    exact ⟨((some bow, iow.1, iow.2), (some qd.1.1, qd.1.2.1, qd.1.2.2), (some qd.2.1, qd.2.2.1, qd.2.2.2)), ⟨hsow, by dsimp only; rw [hcl]; exact hqd.1, by dsimp only; rw [hil]; exact hqd.2⟩, (by dsimp only; rw [hcl, hil, hg]; try rfl), ((Hp.sub (Hp.pull (Hp.pull (Hp.pull hp 1 rfl) 1 rfl) 2 rfl) (List.sublist_append_left [_, _, _] _))).cong rfl⟩

theorem sNewMind_c (u : Int) (l : Int) (xs : List IntA2) (vxs : Value) (w : World) (zu : In64 u) (zl : In64 l) (hGxs : ∀ y ∈ xs, GIntA2 y) (hsxs : SR w 2 vxs xs.length (flat encIntA2 xs)) : Calls Try.prog 16 ([.agg (List.toArray (α := Value) [.int .i64 u, .int .i64 l, vxs])]).toArray w (fun e w' => ∃ q : (Option Nat × Nat × List Value) × (Option Nat × Nat × List Value) × (Option Nat × Nat × List Value), (Sl 2 q.1.1 (nmR u l xs).xs.length q.1.2.1 (flat encIntA2 (nmR u l xs).xs) q.1.2.2 ∧ Sl 1 q.2.1.1 (nmR u l xs).cl.length q.2.1.2.1 (ints (nmR u l xs).cl) q.2.1.2.2 ∧ Sl 1 q.2.2.1 (nmR u l xs).im.length q.2.2.2.1 (ints (nmR u l xs).im) q.2.2.2.2) ∧ e = .returned (.tuple #[.agg (List.toArray (α := Value) [.int .i64 (nmR u l xs).u, .int .i64 (nmR u l xs).l, sv q.1.1 (nmR u l xs).xs.length q.1.2.1, sv q.2.1.1 (nmR u l xs).cl.length q.2.1.2.1, sv q.2.2.1 (nmR u l xs).im.length q.2.2.2.1, .int .i64 0, .int .i64 0]), .bool (goodB u l xs)]) ∧ Hp ⟨w, []⟩ [(q.1.1, 81, flat encIntA2 (nmR u l xs).xs ++ q.1.2.2), (q.2.1.1, 3, ints (nmR u l xs).cl ++ q.2.1.2.2), (q.2.2.1, 3, ints (nmR u l xs).im ++ q.2.2.2.2)] w') := by
  obtain ⟨axs, capxs, rfl, hcapxs, hmaxxs⟩ := hsxs.slice
  have hlenxs := hsxs.len_le
  refine calls_ct Try.func16 Try.ntmps16 rfl rfl ?_
  refine ct_seq ?_
  refine ct_reg ?_
  refine rl_box rfl rfl (fun N1 => ?_)
  refine rl_alloc ze29 rfl (fun N2 => ?_)
  refine rl_val gw_none (ov_assign rfl) rfl ?_
  refine rl_nil ?_
  refine at_then ?_
  refine ct_seq ?_
  refine ct_seq ?_
  refine ct_reg ?_
  first | refine rl_val gw_none (ov_loadall 1 ag26 rfl rfl rfl) rfl ?_ | refine rl_val gw_none (ov_loadp 1 ag26 rfl rfl (vs := [_, _, _]) rfl rfl) rfl ?_ | refine rl_val gw_none (ov_loada 1 ag26 rfl rfl rfl (by assumption)) rfl ?_
  refine rl_callv gw_none goes74 rfl (fun w1 hp => l2Standard_c u l xs _ _ zu zl hGxs (hsxs.ext hp.ext0)) rfl ?_
  refine rl_val gw_none (ov_not rfl) rfl ?_
  refine rl_nil ?_
  refine at_then ?_
  first | refine ct_dec rfl (fun h1 => ?_) (fun h1 => ?_) | refine ct_ndec rfl (fun h1 => ?_) (fun h1 => ?_) | refine ct_eq rfl (fun h1 => ?_) (fun h1 => ?_) | refine ct_ne rfl (fun h1 => ?_) (fun h1 => ?_) | refine ct_not rfl (fun h1 => ?_) (fun h1 => ?_) | refine ct_cond rfl (fun h1 => ?_) (fun h1 => ?_)
  ·
    rw [nmR_no (show goodB u l xs = false by simpa using h1)]
    rw [show goodB u l xs = false by simpa using h1] at *
    refine ct_seq ?_
    refine ct_reg ?_
    refine rl_val gw_none (ov_build rfl (bu29_)) rfl ?_
    refine rl_store [] sz29 rfl rfl rfl rfl rfl (Nat.le_of_ble_eq_true rfl) ?_
    refine rl_val gw_none (ov_assign rfl) rfl ?_
    refine rl_nil ?_
    refine at_then ?_
    refine ct_ret ?_
    refine at_then_ret ?_
    refine at_ret2 Try.results16 (ro_cell 0 ag29 rfl rfl rfl) (ro_tmp rfl) (fun w1 hp => ?_)
    exact ⟨((none, 0, []), (none, 0, []), (none, 0, [])), ⟨Sl.nil0 _, Sl.nil0 _, Sl.nil0 _⟩, rfl, ((((hp.sub (List.nil_sublist _)).nil 3).nil 3).nil 81).cong rfl⟩
  ·
    have hg : goodB u l xs = true := by simpa using h1
    have hil : (digL (numF xs) xs.length).length = xs.length := digL_len _ _
    have hcl : (List.replicate xs.length (5 : Int)).length = xs.length := List.length_replicate
    refine ct_skip ?_
    refine at_then ?_
    refine ct_seq ?_
    refine ct_reg ?_
    first | refine rl_val gw_none (ov_loadall 1 ag26 rfl rfl rfl) rfl ?_ | refine rl_val gw_none (ov_loadp 1 ag26 rfl rfl (vs := [_, _, _]) rfl rfl) rfl ?_ | refine rl_val gw_none (ov_loada 1 ag26 rfl rfl rfl (by assumption)) rfl ?_
    refine rl_val gw_none (ov_build rfl (bu29_0 _ _ _ _ _)) rfl ?_
    refine rl_calle (ι := (Nat × Nat × List Value) × (Option Nat × Nat × List Value) × (Option Nat × Nat × List Value)) (fun q => .agg (List.toArray (α := Value) [.int .i64 u, .int .i64 l, sv (some q.1.1) xs.length q.1.2.1, sv q.2.1.1 xs.length q.2.1.2.1, sv q.2.2.1 xs.length q.2.2.2.1, .int .i64 0, .int .i64 0])) (fun q => [(some q.1.1, 81, flat encIntA2 xs ++ q.1.2.2), (q.2.1.1, 3, ints (List.replicate xs.length (5 : Int)) ++ q.2.1.2.2), (q.2.2.1, 3, ints (digL (numF xs) xs.length) ++ q.2.2.2.2)]) (fun q => Sl 2 (some q.1.1) xs.length q.1.2.1 (flat encIntA2 xs) q.1.2.2 ∧ Sl 1 q.2.1.1 xs.length q.2.1.2.1 (ints (List.replicate xs.length (5 : Int))) q.2.1.2.2 ∧ Sl 1 q.2.2.1 xs.length q.2.2.2.1 (ints (digL (numF xs) xs.length)) q.2.2.2.2) goes75 rfl (fun w1 hp => l21Look_c u l xs _ _ zu zl hGxs (hsxs.ext hp.ext0) hg) rfl (fun qd hqd => ?_)
    refine rl_store [_, _, _] sz29 rfl rfl rfl rfl rfl (Nat.le_of_ble_eq_true rfl) ?_
    refine rl_val gw_none (ov_assign rfl) rfl ?_
    refine rl_nil ?_
    refine at_then ?_
    refine ct_ret ?_
    refine at_ret2 Try.results16 (ro_cell 3 ag29 rfl rfl rfl) (ro_tmp rfl) (fun w1 hp => ?_)
    rw [nmR_yes hg]
    exact ⟨((some qd.1.1, qd.1.2.1, qd.1.2.2), qd.2.1, qd.2.2), ⟨hqd.1, by dsimp only; rw [hcl]; exact hqd.2.1, by dsimp only; rw [hil]; exact hqd.2.2⟩, (by dsimp only; rw [hcl, hil, hg]; try rfl), ((Hp.sub (Hp.pull (Hp.pull (Hp.pull hp 2 rfl) 2 rfl) 2 rfl) (List.sublist_append_left [_, _, _] _))).cong rfl⟩
end Go.Proofs.Ytnnhkpecgchgiaa
