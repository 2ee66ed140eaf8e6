import Derived.Test.YtnnhkpecgchgiaaUc
import Derived.KernelRfl
set_option linter.unusedVariables false
set_option linter.unusedSimpArgs false
namespace Go.Proofs.Ytnnhkpecgchgiaa
open Go Go.RowKit K
theorem iAddNumber_c_no (u : Int) (l : Int) (xs : List IntA2) (n : Int) (vxs : Value) (w : World) (zu : In64 u) (zl : In64 l) (hGxs : ∀ y ∈ xs, GIntA2 y) (hsxs : SR w 2 vxs xs.length (flat encIntA2 xs)) (zn : In64 n) (hc : addNB u l xs n = false) : Calls Try.prog 43 ([.agg (List.toArray (α := Value) [.int .i64 u, .int .i64 l, vxs]), .int .i64 n]).toArray w (fun e w' => RetSl 81 2 (flat encIntA2 (okR (addNB u l xs n) u l (addN xs n xs.length).1).xs) (okR (addNB u l xs n) u l (addN xs n xs.length).1).xs.length (fun s => .tuple #[.agg [.int .i64 (okR (addNB u l xs n) u l (addN xs n xs.length).1).u, .int .i64 (okR (addNB u l xs n) u l (addN xs n xs.length).1).l, s].toArray, .bool (okR (addNB u l xs n) u l (addN xs n xs.length).1).ok]) w e w') := by
  obtain ⟨axs, capxs, rfl, hcapxs, hmaxxs⟩ := hsxs.slice
  have hlenxs := hsxs.len_le
  refine calls_ct Try.func43 Try.ntmps43 rfl rfl ?_
  refine ct_seq ?_
  refine ct_reg ?_
  refine rl_box rfl rfl (fun N1 => ?_)
  refine rl_alloc ze26 rfl (fun N2 => ?_)
  refine rl_val gw_none (ov_assign rfl) rfl ?_
  refine rl_nil ?_
  refine at_then ?_
  refine ct_seq ?_
  refine ct_reg ?_
  first | refine rl_val gw_none (ov_loadall 1 ag26 rfl rfl rfl) rfl ?_ | refine rl_val gw_none (ov_loadp 1 ag26 rfl rfl (vs := [_, _, _]) rfl rfl) rfl ?_ | refine rl_val gw_none (ov_loada 1 ag26 rfl rfl rfl (by assumption)) rfl ?_
  refine rl_val gw_none (ov_move rfl) rfl ?_
  refine rl_callv gw_none goes96 rfl (fun w1 hp => addNumber_no u l xs _ n _ zu zl hGxs (hsxs.ext hp.ext0) zn hc) rfl ?_
  refine rl_val gw_none (ov_move rfl) rfl ?_
  refine rl_val gw_none (ov_extract rfl rfl) rfl ?_
  refine rl_val gw_none (ov_extract rfl rfl) rfl ?_
  refine rl_val gw_none (ov_assign rfl) rfl ?_
  refine rl_val gw_none (ov_assign rfl) rfl ?_
  refine rl_nil ?_
  refine at_then ?_
  refine ct_seq ?_
  refine ct_seq ?_
  refine ct_reg ?_
  refine rl_val gw_none (ov_move rfl) rfl ?_
  refine rl_val gw_none (ov_not rfl) rfl ?_
  refine rl_nil ?_
  refine at_then ?_
  first | refine ct_dec rfl (fun h1 => ?_) (fun h1 => ?_) | refine ct_ndec rfl (fun h1 => ?_) (fun h1 => ?_) | refine ct_eq rfl (fun h1 => ?_) (fun h1 => ?_) | refine ct_ne rfl (fun h1 => ?_) (fun h1 => ?_) | refine ct_not rfl (fun h1 => ?_) (fun h1 => ?_) | refine ct_cond rfl (fun h1 => ?_) (fun h1 => ?_)
  ·
    refine ct_seq ?_
    refine ct_reg ?_
    refine rl_val gw_none (ov_build rfl (bu26_)) rfl ?_
    refine rl_store [] sz26 rfl rfl rfl rfl rfl (Nat.le_of_ble_eq_true rfl) ?_
    refine rl_val gw_none (ov_assign rfl) rfl ?_
    refine rl_nil ?_
    refine at_then ?_
    refine ct_ret ?_
    refine at_then_ret ?_
    refine at_ret2 Try.results43 (ro_cell 0 ag26 rfl rfl rfl) (ro_tmp rfl) (fun w1 hp => ?_)
    rw [okR_no hc]; exact RetSl.nil hp.ext0
  ·
    cases h1

theorem iAddNumber_c_yes (u : Int) (l : Int) (xs : List IntA2) (n : Int) (vxs : Value) (w : World) (zu : In64 u) (zl : In64 l) (hGxs : ∀ y ∈ xs, GIntA2 y) (hsxs : SR w 2 vxs xs.length (flat encIntA2 xs)) (zn : In64 n) (hc : addNB u l xs n = true) : Calls Try.prog 43 ([.agg (List.toArray (α := Value) [.int .i64 u, .int .i64 l, vxs]), .int .i64 n]).toArray w (fun e w' => RetSl 81 2 (flat encIntA2 (okR (addNB u l xs n) u l (addN xs n xs.length).1).xs) (okR (addNB u l xs n) u l (addN xs n xs.length).1).xs.length (fun s => .tuple #[.agg [.int .i64 (okR (addNB u l xs n) u l (addN xs n xs.length).1).u, .int .i64 (okR (addNB u l xs n) u l (addN xs n xs.length).1).l, s].toArray, .bool (okR (addNB u l xs n) u l (addN xs n xs.length).1).ok]) w e w') := by
  obtain ⟨axs, capxs, rfl, hcapxs, hmaxxs⟩ := hsxs.slice
  have hlenxs := hsxs.len_le
  refine calls_ct Try.func43 Try.ntmps43 rfl rfl ?_
  refine ct_seq ?_
  refine ct_reg ?_
  refine rl_box rfl rfl (fun N1 => ?_)
  refine rl_alloc ze26 rfl (fun N2 => ?_)
  refine rl_val gw_none (ov_assign rfl) rfl ?_
  refine rl_nil ?_
  refine at_then ?_
  refine ct_seq ?_
  refine ct_reg ?_
  first | refine rl_val gw_none (ov_loadall 1 ag26 rfl rfl rfl) rfl ?_ | refine rl_val gw_none (ov_loadp 1 ag26 rfl rfl (vs := [_, _, _]) rfl rfl) rfl ?_ | refine rl_val gw_none (ov_loada 1 ag26 rfl rfl rfl (by assumption)) rfl ?_
  refine rl_val gw_none (ov_move rfl) rfl ?_
  refine rl_calle (ι := Nat × Nat × Nat × List Value × Option Nat × Nat × List Value × List BeadMove) (fun q => .tuple #[.pointer (some ⟨q.1, 0, none⟩), .bool true]) (fun q => [(some q.1, 91, [.int .i64 u, .int .i64 l, sv (some q.2.1) ((addN xs n xs.length).1).length q.2.2.1, sv q.2.2.2.2.1 (q.2.2.2.2.2.2.2).length q.2.2.2.2.2.1, .int .i64 (((addN xs n xs.length).2 : Nat))]), (some q.2.1, 81, flat encIntA2 ((addN xs n xs.length).1) ++ q.2.2.2.1), (q.2.2.2.2.1, 128, flat encBeadMove (q.2.2.2.2.2.2.2) ++ q.2.2.2.2.2.2.1)]) (fun q => Sl 2 (some q.2.1) ((addN xs n xs.length).1).length q.2.2.1 (flat encIntA2 ((addN xs n xs.length).1)) q.2.2.2.1 ∧ Sl 3 q.2.2.2.2.1 q.2.2.2.2.2.2.2.length q.2.2.2.2.2.1 (flat encBeadMove q.2.2.2.2.2.2.2) q.2.2.2.2.2.2.1) goes96 rfl (fun w1 hp => addNumber_yes u l xs _ n _ zu zl hGxs (hsxs.ext hp.ext0) zn hc) rfl (fun qw hqw => ?_)
  obtain ⟨bw, br, rc, rp, bm, mc, mp, ms⟩ := qw
  obtain ⟨hsr2, hsm2⟩ := hqw
  try dsimp only at hsr2 hsm2 ⊢
  refine rl_val gw_none (ov_move rfl) rfl ?_
  refine rl_val gw_none (ov_extract rfl rfl) rfl ?_
  refine rl_val gw_none (ov_extract rfl rfl) rfl ?_
  refine rl_val gw_none (ov_assign rfl) rfl ?_
  refine rl_val gw_none (ov_assign rfl) rfl ?_
  refine rl_nil ?_
  refine at_then ?_
  refine ct_seq ?_
  refine ct_seq ?_
  refine ct_reg ?_
  refine rl_val gw_none (ov_move rfl) rfl ?_
  refine rl_val gw_none (ov_not rfl) rfl ?_
  refine rl_nil ?_
  refine at_then ?_
  first | refine ct_dec rfl (fun h1 => ?_) (fun h1 => ?_) | refine ct_ndec rfl (fun h1 => ?_) (fun h1 => ?_) | refine ct_eq rfl (fun h1 => ?_) (fun h1 => ?_) | refine ct_ne rfl (fun h1 => ?_) (fun h1 => ?_) | refine ct_not rfl (fun h1 => ?_) (fun h1 => ?_) | refine ct_cond rfl (fun h1 => ?_) (fun h1 => ?_)
  ·
    cases h1
  ·
    refine ct_skip ?_
    refine at_then ?_
    refine ct_seq ?_
    refine ct_reg ?_
    refine rl_val gw_none (ov_move rfl) rfl ?_
    refine rl_val gw_none (ov_nilc rfl) rfl ?_
    refine rl_val gw_none (ov_field fo91_0 rfl) rfl ?_
    first | refine rl_val gw_none (ov_loadall 0 ag26 rfl rfl rfl) rfl ?_ | refine rl_val gw_none (ov_loadp 0 ag26 rfl rfl (vs := [_, _, _]) rfl rfl) rfl ?_ | refine rl_val gw_none (ov_loada 0 ag26 rfl rfl rfl (by assumption)) rfl ?_
    refine rl_store [_, _, _] sz26 rfl rfl rfl rfl rfl (Nat.le_of_ble_eq_true rfl) ?_
    refine rl_val gw_none (ov_assign rfl) rfl ?_
    refine rl_nil ?_
    refine at_then ?_
    refine ct_ret ?_
    refine at_ret2 Try.results43 (ro_cell 3 ag26 rfl rfl rfl) (ro_tmp rfl) (fun w1 hp => ?_)
    rw [okR_yes hc]; exact RetSl.own 1 hp rfl hsr2

theorem iAddNumber_c (u : Int) (l : Int) (xs : List IntA2) (n : Int) (vxs : Value) (w : World) (zu : In64 u) (zl : In64 l) (hGxs : ∀ y ∈ xs, GIntA2 y) (hsxs : SR w 2 vxs xs.length (flat encIntA2 xs)) (zn : In64 n) : Calls Try.prog 43 ([.agg (List.toArray (α := Value) [.int .i64 u, .int .i64 l, vxs]), .int .i64 n]).toArray w (fun e w' => RetSl 81 2 (flat encIntA2 (okR (addNB u l xs n) u l (addN xs n xs.length).1).xs) (okR (addNB u l xs n) u l (addN xs n xs.length).1).xs.length (fun s => .tuple #[.agg [.int .i64 (okR (addNB u l xs n) u l (addN xs n xs.length).1).u, .int .i64 (okR (addNB u l xs n) u l (addN xs n xs.length).1).l, s].toArray, .bool (okR (addNB u l xs n) u l (addN xs n xs.length).1).ok]) w e w') := by
  rcases Bool.eq_false_or_eq_true (addNB u l xs n) with hc | hc
  · apply iAddNumber_c_yes <;> assumption
  · apply iAddNumber_c_no <;> assumption

theorem iCarriesOf_c_no (u : Int) (l : Int) (xs : List IntA2) (n : Int) (vxs : Value) (w : World) (zu : In64 u) (zl : In64 l) (hGxs : ∀ y ∈ xs, GIntA2 y) (hsxs : SR w 2 vxs xs.length (flat encIntA2 xs)) (zn : In64 n) (hc : addNB u l xs n = false) : Calls Try.prog 34 ([.agg (List.toArray (α := Value) [.int .i64 u, .int .i64 l, vxs]), .int .i64 n]).toArray w (fun e w' => e = .returned (.tuple #[.int .i64 (if addNB u l xs n = true then ((addN xs n xs.length).2 : Nat) else 0), .bool (addNB u l xs n)]) ∧ Ext w w') := by
  obtain ⟨axs, capxs, rfl, hcapxs, hmaxxs⟩ := hsxs.slice
  have hlenxs := hsxs.len_le
  refine calls_ct Try.func34 Try.ntmps34 rfl rfl ?_
  refine ct_seq ?_
  refine ct_reg ?_
  refine rl_box rfl rfl (fun N1 => ?_)
  refine rl_val gw_none (ov_assign rfl) rfl ?_
  refine rl_val gw_none (ov_assign rfl) rfl ?_
  refine rl_nil ?_
  refine at_then ?_
  refine ct_seq ?_
  refine ct_reg ?_
  first | refine rl_val gw_none (ov_loadall 0 ag26 rfl rfl rfl) rfl ?_ | refine rl_val gw_none (ov_loadp 0 ag26 rfl rfl (vs := [_, _, _]) rfl rfl) rfl ?_ | refine rl_val gw_none (ov_loada 0 ag26 rfl rfl rfl (by assumption)) rfl ?_
  refine rl_val gw_none (ov_move rfl) rfl ?_
  refine rl_callv gw_none goes96 rfl (fun w1 hp => addNumber_no u l xs _ n _ zu zl hGxs (hsxs.ext hp.ext0) zn hc) rfl ?_
  refine rl_val gw_none (ov_move rfl) rfl ?_
  refine rl_val gw_none (ov_extract rfl rfl) rfl ?_
  refine rl_val gw_none (ov_extract rfl rfl) rfl ?_
  refine rl_val gw_none (ov_assign rfl) rfl ?_
  refine rl_val gw_none (ov_assign rfl) rfl ?_
  refine rl_nil ?_
  refine at_then ?_
  refine ct_seq ?_
  refine ct_seq ?_
  refine ct_reg ?_
  refine rl_val gw_none (ov_move rfl) rfl ?_
  refine rl_val gw_none (ov_not rfl) rfl ?_
  refine rl_nil ?_
  refine at_then ?_
  first | refine ct_dec rfl (fun h1 => ?_) (fun h1 => ?_) | refine ct_ndec rfl (fun h1 => ?_) (fun h1 => ?_) | refine ct_eq rfl (fun h1 => ?_) (fun h1 => ?_) | refine ct_ne rfl (fun h1 => ?_) (fun h1 => ?_) | refine ct_not rfl (fun h1 => ?_) (fun h1 => ?_) | refine ct_cond rfl (fun h1 => ?_) (fun h1 => ?_)
  ·
    refine ct_seq ?_
    refine ct_reg ?_
    refine rl_val gw_none (ov_assign rfl) rfl ?_
    refine rl_val gw_none (ov_assign rfl) rfl ?_
    refine rl_nil ?_
    refine at_then ?_
    refine ct_ret ?_
    refine at_then_ret ?_
    refine at_ret2 Try.results34 (ro_tmp rfl) (ro_tmp rfl) (fun w1 hp => ?_)
    rw [hc]; exact ⟨rfl, hp.ext0⟩
  ·
    cases h1

theorem iCarriesOf_c_yes (u : Int) (l : Int) (xs : List IntA2) (n : Int) (vxs : Value) (w : World) (zu : In64 u) (zl : In64 l) (hGxs : ∀ y ∈ xs, GIntA2 y) (hsxs : SR w 2 vxs xs.length (flat encIntA2 xs)) (zn : In64 n) (hc : addNB u l xs n = true) : Calls Try.prog 34 ([.agg (List.toArray (α := Value) [.int .i64 u, .int .i64 l, vxs]), .int .i64 n]).toArray w (fun e w' => e = .returned (.tuple #[.int .i64 (if addNB u l xs n = true then ((addN xs n xs.length).2 : Nat) else 0), .bool (addNB u l xs n)]) ∧ Ext w w') := by
  obtain ⟨axs, capxs, rfl, hcapxs, hmaxxs⟩ := hsxs.slice
  have hlenxs := hsxs.len_le
  refine calls_ct Try.func34 Try.ntmps34 rfl rfl ?_
  refine ct_seq ?_
  refine ct_reg ?_
  refine rl_box rfl rfl (fun N1 => ?_)
  refine rl_val gw_none (ov_assign rfl) rfl ?_
  refine rl_val gw_none (ov_assign rfl) rfl ?_
  refine rl_nil ?_
  refine at_then ?_
  refine ct_seq ?_
  refine ct_reg ?_
  first | refine rl_val gw_none (ov_loadall 0 ag26 rfl rfl rfl) rfl ?_ | refine rl_val gw_none (ov_loadp 0 ag26 rfl rfl (vs := [_, _, _]) rfl rfl) rfl ?_ | refine rl_val gw_none (ov_loada 0 ag26 rfl rfl rfl (by assumption)) rfl ?_
  refine rl_val gw_none (ov_move rfl) rfl ?_
  refine rl_calle (ι := Nat × Nat × Nat × List Value × Option Nat × Nat × List Value × List BeadMove) (fun q => .tuple #[.pointer (some ⟨q.1, 0, none⟩), .bool true]) (fun q => [(some q.1, 91, [.int .i64 u, .int .i64 l, sv (some q.2.1) ((addN xs n xs.length).1).length q.2.2.1, sv q.2.2.2.2.1 (q.2.2.2.2.2.2.2).length q.2.2.2.2.2.1, .int .i64 (((addN xs n xs.length).2 : Nat))]), (some q.2.1, 81, flat encIntA2 ((addN xs n xs.length).1) ++ q.2.2.2.1), (q.2.2.2.2.1, 128, flat encBeadMove (q.2.2.2.2.2.2.2) ++ q.2.2.2.2.2.2.1)]) (fun q => Sl 2 (some q.2.1) ((addN xs n xs.length).1).length q.2.2.1 (flat encIntA2 ((addN xs n xs.length).1)) q.2.2.2.1 ∧ Sl 3 q.2.2.2.2.1 q.2.2.2.2.2.2.2.length q.2.2.2.2.2.1 (flat encBeadMove q.2.2.2.2.2.2.2) q.2.2.2.2.2.2.1) goes96 rfl (fun w1 hp => addNumber_yes u l xs _ n _ zu zl hGxs (hsxs.ext hp.ext0) zn hc) rfl (fun qw hqw => ?_)
  obtain ⟨bw, br, rc, rp, bm, mc, mp, ms⟩ := qw
  obtain ⟨hsr2, hsm2⟩ := hqw
  try dsimp only at hsr2 hsm2 ⊢
  refine rl_val gw_none (ov_move rfl) rfl ?_
  refine rl_val gw_none (ov_extract rfl rfl) rfl ?_
  refine rl_val gw_none (ov_extract rfl rfl) rfl ?_
  refine rl_val gw_none (ov_assign rfl) rfl ?_
  refine rl_val gw_none (ov_assign rfl) rfl ?_
  refine rl_nil ?_
  refine at_then ?_
  refine ct_seq ?_
  refine ct_seq ?_
  refine ct_reg ?_
  refine rl_val gw_none (ov_move rfl) rfl ?_
  refine rl_val gw_none (ov_not rfl) rfl ?_
  refine rl_nil ?_
  refine at_then ?_
  first | refine ct_dec rfl (fun h1 => ?_) (fun h1 => ?_) | refine ct_ndec rfl (fun h1 => ?_) (fun h1 => ?_) | refine ct_eq rfl (fun h1 => ?_) (fun h1 => ?_) | refine ct_ne rfl (fun h1 => ?_) (fun h1 => ?_) | refine ct_not rfl (fun h1 => ?_) (fun h1 => ?_) | refine ct_cond rfl (fun h1 => ?_) (fun h1 => ?_)
  ·
    cases h1
  ·
    refine ct_skip ?_
    refine at_then ?_
    refine ct_seq ?_
    refine ct_reg ?_
    refine rl_val gw_none (ov_move rfl) rfl ?_
    refine rl_val gw_none (ov_nilc rfl) rfl ?_
    refine rl_val gw_none (ov_field fo91_2 rfl) rfl ?_
    first | refine rl_val gw_none (ov_load 0 sc3 rfl rfl rfl) rfl ?_ | refine rl_val gw_none (ov_load 0 sc3 rfl rfl (by assumption)) rfl ?_
    refine rl_val gw_none (ov_assign rfl) rfl ?_
    refine rl_val gw_none (ov_assign rfl) rfl ?_
    refine rl_nil ?_
    refine at_then ?_
    refine ct_ret ?_
    refine at_ret2 Try.results34 (ro_tmp rfl) (ro_tmp rfl) (fun w1 hp => ?_)
    rw [hc]; exact ⟨rfl, hp.ext0⟩

theorem iCarriesOf_c (u : Int) (l : Int) (xs : List IntA2) (n : Int) (vxs : Value) (w : World) (zu : In64 u) (zl : In64 l) (hGxs : ∀ y ∈ xs, GIntA2 y) (hsxs : SR w 2 vxs xs.length (flat encIntA2 xs)) (zn : In64 n) : Calls Try.prog 34 ([.agg (List.toArray (α := Value) [.int .i64 u, .int .i64 l, vxs]), .int .i64 n]).toArray w (fun e w' => e = .returned (.tuple #[.int .i64 (if addNB u l xs n = true then ((addN xs n xs.length).2 : Nat) else 0), .bool (addNB u l xs n)]) ∧ Ext w w') := by
  rcases Bool.eq_false_or_eq_true (addNB u l xs n) with hc | hc
  · apply iCarriesOf_c_yes <;> assumption
  · apply iCarriesOf_c_no <;> assumption

theorem iAddDigit_c_no (u : Int) (l : Int) (xs : List IntA2) (rod : Int) (d : Int) (vxs : Value) (w : World) (zu : In64 u) (zl : In64 l) (hGxs : ∀ y ∈ xs, GIntA2 y) (hsxs : SR w 2 vxs xs.length (flat encIntA2 xs)) (zrod : In64 rod) (zd : In64 d) (hc : addDB u l xs rod d = false) : Calls Try.prog 36 ([.agg (List.toArray (α := Value) [.int .i64 u, .int .i64 l, vxs]), .int .i64 rod, .int .i64 d]).toArray w (fun e w' => RetSl 81 2 (flat encIntA2 (okR (addDB u l xs rod d) u l (addS (rod.toNat + 1) xs d).1).xs) (okR (addDB u l xs rod d) u l (addS (rod.toNat + 1) xs d).1).xs.length (fun s => .tuple #[.agg [.int .i64 (okR (addDB u l xs rod d) u l (addS (rod.toNat + 1) xs d).1).u, .int .i64 (okR (addDB u l xs rod d) u l (addS (rod.toNat + 1) xs d).1).l, s].toArray, .bool (okR (addDB u l xs rod d) u l (addS (rod.toNat + 1) xs d).1).ok]) w e w') := by
  obtain ⟨axs, capxs, rfl, hcapxs, hmaxxs⟩ := hsxs.slice
  have hlenxs := hsxs.len_le
  refine calls_ct Try.func36 Try.ntmps36 rfl rfl ?_
  refine ct_seq ?_
  refine ct_reg ?_
  refine rl_box rfl rfl (fun N1 => ?_)
  refine rl_alloc ze26 rfl (fun N2 => ?_)
  refine rl_val gw_none (ov_assign rfl) rfl ?_
  refine rl_nil ?_
  refine at_then ?_
  refine ct_seq ?_
  refine ct_reg ?_
  first | refine rl_val gw_none (ov_loadall 1 ag26 rfl rfl rfl) rfl ?_ | refine rl_val gw_none (ov_loadp 1 ag26 rfl rfl (vs := [_, _, _]) rfl rfl) rfl ?_ | refine rl_val gw_none (ov_loada 1 ag26 rfl rfl rfl (by assumption)) rfl ?_
  refine rl_val gw_none (ov_move rfl) rfl ?_
  refine rl_val gw_none (ov_move rfl) rfl ?_
  refine rl_callv gw_none goes98 rfl (fun w1 hp => addDigit_no u l xs _ rod d _ zu zl hGxs (hsxs.ext hp.ext0) zrod zd hc) rfl ?_
  refine rl_val gw_none (ov_move rfl) rfl ?_
  refine rl_val gw_none (ov_extract rfl rfl) rfl ?_
  refine rl_val gw_none (ov_extract rfl rfl) rfl ?_
  refine rl_val gw_none (ov_assign rfl) rfl ?_
  refine rl_val gw_none (ov_assign rfl) rfl ?_
  refine rl_nil ?_
  refine at_then ?_
  refine ct_seq ?_
  refine ct_seq ?_
  refine ct_reg ?_
  refine rl_val gw_none (ov_move rfl) rfl ?_
  refine rl_val gw_none (ov_not rfl) rfl ?_
  refine rl_nil ?_
  refine at_then ?_
  first | refine ct_dec rfl (fun h1 => ?_) (fun h1 => ?_) | refine ct_ndec rfl (fun h1 => ?_) (fun h1 => ?_) | refine ct_eq rfl (fun h1 => ?_) (fun h1 => ?_) | refine ct_ne rfl (fun h1 => ?_) (fun h1 => ?_) | refine ct_not rfl (fun h1 => ?_) (fun h1 => ?_) | refine ct_cond rfl (fun h1 => ?_) (fun h1 => ?_)
  ·
    refine ct_seq ?_
    refine ct_reg ?_
    refine rl_val gw_none (ov_build rfl (bu26_)) rfl ?_
    refine rl_store [] sz26 rfl rfl rfl rfl rfl (Nat.le_of_ble_eq_true rfl) ?_
    refine rl_val gw_none (ov_assign rfl) rfl ?_
    refine rl_nil ?_
    refine at_then ?_
    refine ct_ret ?_
    refine at_then_ret ?_
    refine at_ret2 Try.results36 (ro_cell 0 ag26 rfl rfl rfl) (ro_tmp rfl) (fun w1 hp => ?_)
    rw [okR_no hc]; exact RetSl.nil hp.ext0
  ·
    cases h1

theorem iAddDigit_c_yes (u : Int) (l : Int) (xs : List IntA2) (rod : Int) (d : Int) (vxs : Value) (w : World) (zu : In64 u) (zl : In64 l) (hGxs : ∀ y ∈ xs, GIntA2 y) (hsxs : SR w 2 vxs xs.length (flat encIntA2 xs)) (zrod : In64 rod) (zd : In64 d) (hc : addDB u l xs rod d = true) : Calls Try.prog 36 ([.agg (List.toArray (α := Value) [.int .i64 u, .int .i64 l, vxs]), .int .i64 rod, .int .i64 d]).toArray w (fun e w' => RetSl 81 2 (flat encIntA2 (okR (addDB u l xs rod d) u l (addS (rod.toNat + 1) xs d).1).xs) (okR (addDB u l xs rod d) u l (addS (rod.toNat + 1) xs d).1).xs.length (fun s => .tuple #[.agg [.int .i64 (okR (addDB u l xs rod d) u l (addS (rod.toNat + 1) xs d).1).u, .int .i64 (okR (addDB u l xs rod d) u l (addS (rod.toNat + 1) xs d).1).l, s].toArray, .bool (okR (addDB u l xs rod d) u l (addS (rod.toNat + 1) xs d).1).ok]) w e w') := by
  obtain ⟨axs, capxs, rfl, hcapxs, hmaxxs⟩ := hsxs.slice
  have hlenxs := hsxs.len_le
  refine calls_ct Try.func36 Try.ntmps36 rfl rfl ?_
  refine ct_seq ?_
  refine ct_reg ?_
  refine rl_box rfl rfl (fun N1 => ?_)
  refine rl_alloc ze26 rfl (fun N2 => ?_)
  refine rl_val gw_none (ov_assign rfl) rfl ?_
  refine rl_nil ?_
  refine at_then ?_
  refine ct_seq ?_
  refine ct_reg ?_
  first | refine rl_val gw_none (ov_loadall 1 ag26 rfl rfl rfl) rfl ?_ | refine rl_val gw_none (ov_loadp 1 ag26 rfl rfl (vs := [_, _, _]) rfl rfl) rfl ?_ | refine rl_val gw_none (ov_loada 1 ag26 rfl rfl rfl (by assumption)) rfl ?_
  refine rl_val gw_none (ov_move rfl) rfl ?_
  refine rl_val gw_none (ov_move rfl) rfl ?_
  refine rl_calle (ι := Nat × Nat × Nat × List Value × Option Nat × Nat × List Value × List BeadMove) (fun q => .tuple #[.pointer (some ⟨q.1, 0, none⟩), .bool true]) (fun q => [(some q.1, 91, [.int .i64 u, .int .i64 l, sv (some q.2.1) ((addS (rod.toNat + 1) xs d).1).length q.2.2.1, sv q.2.2.2.2.1 (q.2.2.2.2.2.2.2).length q.2.2.2.2.2.1, .int .i64 (0 + ((addS (rod.toNat + 1) xs d).2 : Nat))]), (some q.2.1, 81, flat encIntA2 ((addS (rod.toNat + 1) xs d).1) ++ q.2.2.2.1), (q.2.2.2.2.1, 128, flat encBeadMove (q.2.2.2.2.2.2.2) ++ q.2.2.2.2.2.2.1)]) (fun q => Sl 2 (some q.2.1) ((addS (rod.toNat + 1) xs d).1).length q.2.2.1 (flat encIntA2 ((addS (rod.toNat + 1) xs d).1)) q.2.2.2.1 ∧ Sl 3 q.2.2.2.2.1 q.2.2.2.2.2.2.2.length q.2.2.2.2.2.1 (flat encBeadMove q.2.2.2.2.2.2.2) q.2.2.2.2.2.2.1) goes98 rfl (fun w1 hp => addDigit_yes u l xs _ rod d _ zu zl hGxs (hsxs.ext hp.ext0) zrod zd hc) rfl (fun qw hqw => ?_)
  obtain ⟨bw, br, rc, rp, bm, mc, mp, ms⟩ := qw
  obtain ⟨hsr2, hsm2⟩ := hqw
  try dsimp only at hsr2 hsm2 ⊢
  refine rl_val gw_none (ov_move rfl) rfl ?_
  refine rl_val gw_none (ov_extract rfl rfl) rfl ?_
  refine rl_val gw_none (ov_extract rfl rfl) rfl ?_
  refine rl_val gw_none (ov_assign rfl) rfl ?_
  refine rl_val gw_none (ov_assign rfl) rfl ?_
  refine rl_nil ?_
  refine at_then ?_
  refine ct_seq ?_
  refine ct_seq ?_
  refine ct_reg ?_
  refine rl_val gw_none (ov_move rfl) rfl ?_
  refine rl_val gw_none (ov_not rfl) rfl ?_
  refine rl_nil ?_
  refine at_then ?_
  first | refine ct_dec rfl (fun h1 => ?_) (fun h1 => ?_) | refine ct_ndec rfl (fun h1 => ?_) (fun h1 => ?_) | refine ct_eq rfl (fun h1 => ?_) (fun h1 => ?_) | refine ct_ne rfl (fun h1 => ?_) (fun h1 => ?_) | refine ct_not rfl (fun h1 => ?_) (fun h1 => ?_) | refine ct_cond rfl (fun h1 => ?_) (fun h1 => ?_)
  ·
    cases h1
  ·
    refine ct_skip ?_
    refine at_then ?_
    refine ct_seq ?_
    refine ct_reg ?_
    refine rl_val gw_none (ov_move rfl) rfl ?_
    refine rl_val gw_none (ov_nilc rfl) rfl ?_
    refine rl_val gw_none (ov_field fo91_0 rfl) rfl ?_
    first | refine rl_val gw_none (ov_loadall 0 ag26 rfl rfl rfl) rfl ?_ | refine rl_val gw_none (ov_loadp 0 ag26 rfl rfl (vs := [_, _, _]) rfl rfl) rfl ?_ | refine rl_val gw_none (ov_loada 0 ag26 rfl rfl rfl (by assumption)) rfl ?_
    refine rl_store [_, _, _] sz26 rfl rfl rfl rfl rfl (Nat.le_of_ble_eq_true rfl) ?_
    refine rl_val gw_none (ov_assign rfl) rfl ?_
    refine rl_nil ?_
    refine at_then ?_
    refine ct_ret ?_
    refine at_ret2 Try.results36 (ro_cell 3 ag26 rfl rfl rfl) (ro_tmp rfl) (fun w1 hp => ?_)
    rw [okR_yes hc]; exact RetSl.own 1 hp rfl hsr2

theorem iAddDigit_c (u : Int) (l : Int) (xs : List IntA2) (rod : Int) (d : Int) (vxs : Value) (w : World) (zu : In64 u) (zl : In64 l) (hGxs : ∀ y ∈ xs, GIntA2 y) (hsxs : SR w 2 vxs xs.length (flat encIntA2 xs)) (zrod : In64 rod) (zd : In64 d) : Calls Try.prog 36 ([.agg (List.toArray (α := Value) [.int .i64 u, .int .i64 l, vxs]), .int .i64 rod, .int .i64 d]).toArray w (fun e w' => RetSl 81 2 (flat encIntA2 (okR (addDB u l xs rod d) u l (addS (rod.toNat + 1) xs d).1).xs) (okR (addDB u l xs rod d) u l (addS (rod.toNat + 1) xs d).1).xs.length (fun s => .tuple #[.agg [.int .i64 (okR (addDB u l xs rod d) u l (addS (rod.toNat + 1) xs d).1).u, .int .i64 (okR (addDB u l xs rod d) u l (addS (rod.toNat + 1) xs d).1).l, s].toArray, .bool (okR (addDB u l xs rod d) u l (addS (rod.toNat + 1) xs d).1).ok]) w e w') := by
  rcases Bool.eq_false_or_eq_true (addDB u l xs rod d) with hc | hc
  · apply iAddDigit_c_yes <;> assumption
  · apply iAddDigit_c_no <;> assumption

theorem iTakeNumber_c_no (u : Int) (l : Int) (xs : List IntA2) (n : Int) (vxs : Value) (w : World) (zu : In64 u) (zl : In64 l) (hGxs : ∀ y ∈ xs, GIntA2 y) (hsxs : SR w 2 vxs xs.length (flat encIntA2 xs)) (zn : In64 n) (hc : takeNB u l xs n = false) : Calls Try.prog 41 ([.agg (List.toArray (α := Value) [.int .i64 u, .int .i64 l, vxs]), .int .i64 n]).toArray w (fun e w' => RetSl 81 2 (flat encIntA2 (okR (takeNB u l xs n) u l (takeN xs n xs.length).1).xs) (okR (takeNB u l xs n) u l (takeN xs n xs.length).1).xs.length (fun s => .tuple #[.agg [.int .i64 (okR (takeNB u l xs n) u l (takeN xs n xs.length).1).u, .int .i64 (okR (takeNB u l xs n) u l (takeN xs n xs.length).1).l, s].toArray, .bool (okR (takeNB u l xs n) u l (takeN xs n xs.length).1).ok]) w e w') := by
  obtain ⟨axs, capxs, rfl, hcapxs, hmaxxs⟩ := hsxs.slice
  have hlenxs := hsxs.len_le
  refine calls_ct Try.func41 Try.ntmps41 rfl rfl ?_
  refine ct_seq ?_
  refine ct_reg ?_
  refine rl_box rfl rfl (fun N1 => ?_)
  refine rl_alloc ze26 rfl (fun N2 => ?_)
  refine rl_val gw_none (ov_assign rfl) rfl ?_
  refine rl_nil ?_
  refine at_then ?_
  refine ct_seq ?_
  refine ct_reg ?_
  first | refine rl_val gw_none (ov_loadall 1 ag26 rfl rfl rfl) rfl ?_ | refine rl_val gw_none (ov_loadp 1 ag26 rfl rfl (vs := [_, _, _]) rfl rfl) rfl ?_ | refine rl_val gw_none (ov_loada 1 ag26 rfl rfl rfl (by assumption)) rfl ?_
  refine rl_val gw_none (ov_move rfl) rfl ?_
  refine rl_callv gw_none goes91 rfl (fun w1 hp => takeNumber_no u l xs _ n _ zu zl hGxs (hsxs.ext hp.ext0) zn hc) rfl ?_
  refine rl_val gw_none (ov_move rfl) rfl ?_
  refine rl_val gw_none (ov_extract rfl rfl) rfl ?_
  refine rl_val gw_none (ov_extract rfl rfl) rfl ?_
  refine rl_val gw_none (ov_assign rfl) rfl ?_
  refine rl_val gw_none (ov_assign rfl) rfl ?_
  refine rl_nil ?_
  refine at_then ?_
  refine ct_seq ?_
  refine ct_seq ?_
  refine ct_reg ?_
  refine rl_val gw_none (ov_move rfl) rfl ?_
  refine rl_val gw_none (ov_not rfl) rfl ?_
  refine rl_nil ?_
  refine at_then ?_
  first | refine ct_dec rfl (fun h1 => ?_) (fun h1 => ?_) | refine ct_ndec rfl (fun h1 => ?_) (fun h1 => ?_) | refine ct_eq rfl (fun h1 => ?_) (fun h1 => ?_) | refine ct_ne rfl (fun h1 => ?_) (fun h1 => ?_) | refine ct_not rfl (fun h1 => ?_) (fun h1 => ?_) | refine ct_cond rfl (fun h1 => ?_) (fun h1 => ?_)
  ·
    refine ct_seq ?_
    refine ct_reg ?_
    refine rl_val gw_none (ov_build rfl (bu26_)) rfl ?_
    refine rl_store [] sz26 rfl rfl rfl rfl rfl (Nat.le_of_ble_eq_true rfl) ?_
    refine rl_val gw_none (ov_assign rfl) rfl ?_
    refine rl_nil ?_
    refine at_then ?_
    refine ct_ret ?_
    refine at_then_ret ?_
    refine at_ret2 Try.results41 (ro_cell 0 ag26 rfl rfl rfl) (ro_tmp rfl) (fun w1 hp => ?_)
    rw [okR_no hc]; exact RetSl.nil hp.ext0
  ·
    cases h1

theorem iTakeNumber_c_yes (u : Int) (l : Int) (xs : List IntA2) (n : Int) (vxs : Value) (w : World) (zu : In64 u) (zl : In64 l) (hGxs : ∀ y ∈ xs, GIntA2 y) (hsxs : SR w 2 vxs xs.length (flat encIntA2 xs)) (zn : In64 n) (hc : takeNB u l xs n = true) : Calls Try.prog 41 ([.agg (List.toArray (α := Value) [.int .i64 u, .int .i64 l, vxs]), .int .i64 n]).toArray w (fun e w' => RetSl 81 2 (flat encIntA2 (okR (takeNB u l xs n) u l (takeN xs n xs.length).1).xs) (okR (takeNB u l xs n) u l (takeN xs n xs.length).1).xs.length (fun s => .tuple #[.agg [.int .i64 (okR (takeNB u l xs n) u l (takeN xs n xs.length).1).u, .int .i64 (okR (takeNB u l xs n) u l (takeN xs n xs.length).1).l, s].toArray, .bool (okR (takeNB u l xs n) u l (takeN xs n xs.length).1).ok]) w e w') := by
  obtain ⟨axs, capxs, rfl, hcapxs, hmaxxs⟩ := hsxs.slice
  have hlenxs := hsxs.len_le
  refine calls_ct Try.func41 Try.ntmps41 rfl rfl ?_
  refine ct_seq ?_
  refine ct_reg ?_
  refine rl_box rfl rfl (fun N1 => ?_)
  refine rl_alloc ze26 rfl (fun N2 => ?_)
  refine rl_val gw_none (ov_assign rfl) rfl ?_
  refine rl_nil ?_
  refine at_then ?_
  refine ct_seq ?_
  refine ct_reg ?_
  first | refine rl_val gw_none (ov_loadall 1 ag26 rfl rfl rfl) rfl ?_ | refine rl_val gw_none (ov_loadp 1 ag26 rfl rfl (vs := [_, _, _]) rfl rfl) rfl ?_ | refine rl_val gw_none (ov_loada 1 ag26 rfl rfl rfl (by assumption)) rfl ?_
  refine rl_val gw_none (ov_move rfl) rfl ?_
  refine rl_calle (ι := Nat × Nat × Nat × List Value × Option Nat × Nat × List Value × List BeadMove) (fun q => .tuple #[.pointer (some ⟨q.1, 0, none⟩), .bool true]) (fun q => [(some q.1, 91, [.int .i64 u, .int .i64 l, sv (some q.2.1) ((takeN xs n xs.length).1).length q.2.2.1, sv q.2.2.2.2.1 (q.2.2.2.2.2.2.2).length q.2.2.2.2.2.1, .int .i64 (((takeN xs n xs.length).2 : Nat))]), (some q.2.1, 81, flat encIntA2 ((takeN xs n xs.length).1) ++ q.2.2.2.1), (q.2.2.2.2.1, 128, flat encBeadMove (q.2.2.2.2.2.2.2) ++ q.2.2.2.2.2.2.1)]) (fun q => Sl 2 (some q.2.1) ((takeN xs n xs.length).1).length q.2.2.1 (flat encIntA2 ((takeN xs n xs.length).1)) q.2.2.2.1 ∧ Sl 3 q.2.2.2.2.1 q.2.2.2.2.2.2.2.length q.2.2.2.2.2.1 (flat encBeadMove q.2.2.2.2.2.2.2) q.2.2.2.2.2.2.1) goes91 rfl (fun w1 hp => takeNumber_yes u l xs _ n _ zu zl hGxs (hsxs.ext hp.ext0) zn hc) rfl (fun qw hqw => ?_)
  obtain ⟨bw, br, rc, rp, bm, mc, mp, ms⟩ := qw
  obtain ⟨hsr2, hsm2⟩ := hqw
  try dsimp only at hsr2 hsm2 ⊢
  refine rl_val gw_none (ov_move rfl) rfl ?_
  refine rl_val gw_none (ov_extract rfl rfl) rfl ?_
  refine rl_val gw_none (ov_extract rfl rfl) rfl ?_
  refine rl_val gw_none (ov_assign rfl) rfl ?_
  refine rl_val gw_none (ov_assign rfl) rfl ?_
  refine rl_nil ?_
  refine at_then ?_
  refine ct_seq ?_
  refine ct_seq ?_
  refine ct_reg ?_
  refine rl_val gw_none (ov_move rfl) rfl ?_
  refine rl_val gw_none (ov_not rfl) rfl ?_
  refine rl_nil ?_
  refine at_then ?_
  first | refine ct_dec rfl (fun h1 => ?_) (fun h1 => ?_) | refine ct_ndec rfl (fun h1 => ?_) (fun h1 => ?_) | refine ct_eq rfl (fun h1 => ?_) (fun h1 => ?_) | refine ct_ne rfl (fun h1 => ?_) (fun h1 => ?_) | refine ct_not rfl (fun h1 => ?_) (fun h1 => ?_) | refine ct_cond rfl (fun h1 => ?_) (fun h1 => ?_)
  ·
    cases h1
  ·
    refine ct_skip ?_
    refine at_then ?_
    refine ct_seq ?_
    refine ct_reg ?_
    refine rl_val gw_none (ov_move rfl) rfl ?_
    refine rl_val gw_none (ov_nilc rfl) rfl ?_
    refine rl_val gw_none (ov_field fo91_0 rfl) rfl ?_
    first | refine rl_val gw_none (ov_loadall 0 ag26 rfl rfl rfl) rfl ?_ | refine rl_val gw_none (ov_loadp 0 ag26 rfl rfl (vs := [_, _, _]) rfl rfl) rfl ?_ | refine rl_val gw_none (ov_loada 0 ag26 rfl rfl rfl (by assumption)) rfl ?_
    refine rl_store [_, _, _] sz26 rfl rfl rfl rfl rfl (Nat.le_of_ble_eq_true rfl) ?_
    refine rl_val gw_none (ov_assign rfl) rfl ?_
    refine rl_nil ?_
    refine at_then ?_
    refine ct_ret ?_
    refine at_ret2 Try.results41 (ro_cell 3 ag26 rfl rfl rfl) (ro_tmp rfl) (fun w1 hp => ?_)
    rw [okR_yes hc]; exact RetSl.own 1 hp rfl hsr2

theorem iTakeNumber_c (u : Int) (l : Int) (xs : List IntA2) (n : Int) (vxs : Value) (w : World) (zu : In64 u) (zl : In64 l) (hGxs : ∀ y ∈ xs, GIntA2 y) (hsxs : SR w 2 vxs xs.length (flat encIntA2 xs)) (zn : In64 n) : Calls Try.prog 41 ([.agg (List.toArray (α := Value) [.int .i64 u, .int .i64 l, vxs]), .int .i64 n]).toArray w (fun e w' => RetSl 81 2 (flat encIntA2 (okR (takeNB u l xs n) u l (takeN xs n xs.length).1).xs) (okR (takeNB u l xs n) u l (takeN xs n xs.length).1).xs.length (fun s => .tuple #[.agg [.int .i64 (okR (takeNB u l xs n) u l (takeN xs n xs.length).1).u, .int .i64 (okR (takeNB u l xs n) u l (takeN xs n xs.length).1).l, s].toArray, .bool (okR (takeNB u l xs n) u l (takeN xs n xs.length).1).ok]) w e w') := by
  rcases Bool.eq_false_or_eq_true (takeNB u l xs n) with hc | hc
  · apply iTakeNumber_c_yes <;> assumption
  · apply iTakeNumber_c_no <;> assumption

theorem iBorrowsOf_c_no (u : Int) (l : Int) (xs : List IntA2) (n : Int) (vxs : Value) (w : World) (zu : In64 u) (zl : In64 l) (hGxs : ∀ y ∈ xs, GIntA2 y) (hsxs : SR w 2 vxs xs.length (flat encIntA2 xs)) (zn : In64 n) (hc : takeNB u l xs n = false) : Calls Try.prog 32 ([.agg (List.toArray (α := Value) [.int .i64 u, .int .i64 l, vxs]), .int .i64 n]).toArray w (fun e w' => e = .returned (.tuple #[.int .i64 (if takeNB u l xs n = true then ((takeN xs n xs.length).2 : Nat) else 0), .bool (takeNB u l xs n)]) ∧ Ext w w') := by
  obtain ⟨axs, capxs, rfl, hcapxs, hmaxxs⟩ := hsxs.slice
  have hlenxs := hsxs.len_le
  refine calls_ct Try.func32 Try.ntmps32 rfl rfl ?_
  refine ct_seq ?_
  refine ct_reg ?_
  refine rl_box rfl rfl (fun N1 => ?_)
  refine rl_val gw_none (ov_assign rfl) rfl ?_
  refine rl_val gw_none (ov_assign rfl) rfl ?_
  refine rl_nil ?_
  refine at_then ?_
  refine ct_seq ?_
  refine ct_reg ?_
  first | refine rl_val gw_none (ov_loadall 0 ag26 rfl rfl rfl) rfl ?_ | refine rl_val gw_none (ov_loadp 0 ag26 rfl rfl (vs := [_, _, _]) rfl rfl) rfl ?_ | refine rl_val gw_none (ov_loada 0 ag26 rfl rfl rfl (by assumption)) rfl ?_
  refine rl_val gw_none (ov_move rfl) rfl ?_
  refine rl_callv gw_none goes91 rfl (fun w1 hp => takeNumber_no u l xs _ n _ zu zl hGxs (hsxs.ext hp.ext0) zn hc) rfl ?_
  refine rl_val gw_none (ov_move rfl) rfl ?_
  refine rl_val gw_none (ov_extract rfl rfl) rfl ?_
  refine rl_val gw_none (ov_extract rfl rfl) rfl ?_
  refine rl_val gw_none (ov_assign rfl) rfl ?_
  refine rl_val gw_none (ov_assign rfl) rfl ?_
  refine rl_nil ?_
  refine at_then ?_
  refine ct_seq ?_
  refine ct_seq ?_
  refine ct_reg ?_
  refine rl_val gw_none (ov_move rfl) rfl ?_
  refine rl_val gw_none (ov_not rfl) rfl ?_
  refine rl_nil ?_
  refine at_then ?_
  first | refine ct_dec rfl (fun h1 => ?_) (fun h1 => ?_) | refine ct_ndec rfl (fun h1 => ?_) (fun h1 => ?_) | refine ct_eq rfl (fun h1 => ?_) (fun h1 => ?_) | refine ct_ne rfl (fun h1 => ?_) (fun h1 => ?_) | refine ct_not rfl (fun h1 => ?_) (fun h1 => ?_) | refine ct_cond rfl (fun h1 => ?_) (fun h1 => ?_)
  ·
    refine ct_seq ?_
    refine ct_reg ?_
    refine rl_val gw_none (ov_assign rfl) rfl ?_
    refine rl_val gw_none (ov_assign rfl) rfl ?_
    refine rl_nil ?_
    refine at_then ?_
    refine ct_ret ?_
    refine at_then_ret ?_
    refine at_ret2 Try.results32 (ro_tmp rfl) (ro_tmp rfl) (fun w1 hp => ?_)
    rw [hc]; exact ⟨rfl, hp.ext0⟩
  ·
    cases h1

theorem iBorrowsOf_c_yes (u : Int) (l : Int) (xs : List IntA2) (n : Int) (vxs : Value) (w : World) (zu : In64 u) (zl : In64 l) (hGxs : ∀ y ∈ xs, GIntA2 y) (hsxs : SR w 2 vxs xs.length (flat encIntA2 xs)) (zn : In64 n) (hc : takeNB u l xs n = true) : Calls Try.prog 32 ([.agg (List.toArray (α := Value) [.int .i64 u, .int .i64 l, vxs]), .int .i64 n]).toArray w (fun e w' => e = .returned (.tuple #[.int .i64 (if takeNB u l xs n = true then ((takeN xs n xs.length).2 : Nat) else 0), .bool (takeNB u l xs n)]) ∧ Ext w w') := by
  obtain ⟨axs, capxs, rfl, hcapxs, hmaxxs⟩ := hsxs.slice
  have hlenxs := hsxs.len_le
  refine calls_ct Try.func32 Try.ntmps32 rfl rfl ?_
  refine ct_seq ?_
  refine ct_reg ?_
  refine rl_box rfl rfl (fun N1 => ?_)
  refine rl_val gw_none (ov_assign rfl) rfl ?_
  refine rl_val gw_none (ov_assign rfl) rfl ?_
  refine rl_nil ?_
  refine at_then ?_
  refine ct_seq ?_
  refine ct_reg ?_
  first | refine rl_val gw_none (ov_loadall 0 ag26 rfl rfl rfl) rfl ?_ | refine rl_val gw_none (ov_loadp 0 ag26 rfl rfl (vs := [_, _, _]) rfl rfl) rfl ?_ | refine rl_val gw_none (ov_loada 0 ag26 rfl rfl rfl (by assumption)) rfl ?_
  refine rl_val gw_none (ov_move rfl) rfl ?_
  refine rl_calle (ι := Nat × Nat × Nat × List Value × Option Nat × Nat × List Value × List BeadMove) (fun q => .tuple #[.pointer (some ⟨q.1, 0, none⟩), .bool true]) (fun q => [(some q.1, 91, [.int .i64 u, .int .i64 l, sv (some q.2.1) ((takeN xs n xs.length).1).length q.2.2.1, sv q.2.2.2.2.1 (q.2.2.2.2.2.2.2).length q.2.2.2.2.2.1, .int .i64 (((takeN xs n xs.length).2 : Nat))]), (some q.2.1, 81, flat encIntA2 ((takeN xs n xs.length).1) ++ q.2.2.2.1), (q.2.2.2.2.1, 128, flat encBeadMove (q.2.2.2.2.2.2.2) ++ q.2.2.2.2.2.2.1)]) (fun q => Sl 2 (some q.2.1) ((takeN xs n xs.length).1).length q.2.2.1 (flat encIntA2 ((takeN xs n xs.length).1)) q.2.2.2.1 ∧ Sl 3 q.2.2.2.2.1 q.2.2.2.2.2.2.2.length q.2.2.2.2.2.1 (flat encBeadMove q.2.2.2.2.2.2.2) q.2.2.2.2.2.2.1) goes91 rfl (fun w1 hp => takeNumber_yes u l xs _ n _ zu zl hGxs (hsxs.ext hp.ext0) zn hc) rfl (fun qw hqw => ?_)
  obtain ⟨bw, br, rc, rp, bm, mc, mp, ms⟩ := qw
  obtain ⟨hsr2, hsm2⟩ := hqw
  try dsimp only at hsr2 hsm2 ⊢
  refine rl_val gw_none (ov_move rfl) rfl ?_
  refine rl_val gw_none (ov_extract rfl rfl) rfl ?_
  refine rl_val gw_none (ov_extract rfl rfl) rfl ?_
  refine rl_val gw_none (ov_assign rfl) rfl ?_
  refine rl_val gw_none (ov_assign rfl) rfl ?_
  refine rl_nil ?_
  refine at_then ?_
  refine ct_seq ?_
  refine ct_seq ?_
  refine ct_reg ?_
  refine rl_val gw_none (ov_move rfl) rfl ?_
  refine rl_val gw_none (ov_not rfl) rfl ?_
  refine rl_nil ?_
  refine at_then ?_
  first | refine ct_dec rfl (fun h1 => ?_) (fun h1 => ?_) | refine ct_ndec rfl (fun h1 => ?_) (fun h1 => ?_) | refine ct_eq rfl (fun h1 => ?_) (fun h1 => ?_) | refine ct_ne rfl (fun h1 => ?_) (fun h1 => ?_) | refine ct_not rfl (fun h1 => ?_) (fun h1 => ?_) | refine ct_cond rfl (fun h1 => ?_) (fun h1 => ?_)
  ·
    cases h1
  ·
    refine ct_skip ?_
    refine at_then ?_
    refine ct_seq ?_
    refine ct_reg ?_
    refine rl_val gw_none (ov_move rfl) rfl ?_
    refine rl_val gw_none (ov_nilc rfl) rfl ?_
    refine rl_val gw_none (ov_field fo91_2 rfl) rfl ?_
    first | refine rl_val gw_none (ov_load 0 sc3 rfl rfl rfl) rfl ?_ | refine rl_val gw_none (ov_load 0 sc3 rfl rfl (by assumption)) rfl ?_
    refine rl_val gw_none (ov_assign rfl) rfl ?_
    refine rl_val gw_none (ov_assign rfl) rfl ?_
    refine rl_nil ?_
    refine at_then ?_
    refine ct_ret ?_
    refine at_ret2 Try.results32 (ro_tmp rfl) (ro_tmp rfl) (fun w1 hp => ?_)
    rw [hc]; exact ⟨rfl, hp.ext0⟩

theorem iBorrowsOf_c (u : Int) (l : Int) (xs : List IntA2) (n : Int) (vxs : Value) (w : World) (zu : In64 u) (zl : In64 l) (hGxs : ∀ y ∈ xs, GIntA2 y) (hsxs : SR w 2 vxs xs.length (flat encIntA2 xs)) (zn : In64 n) : Calls Try.prog 32 ([.agg (List.toArray (α := Value) [.int .i64 u, .int .i64 l, vxs]), .int .i64 n]).toArray w (fun e w' => e = .returned (.tuple #[.int .i64 (if takeNB u l xs n = true then ((takeN xs n xs.length).2 : Nat) else 0), .bool (takeNB u l xs n)]) ∧ Ext w w') := by
  rcases Bool.eq_false_or_eq_true (takeNB u l xs n) with hc | hc
  · apply iBorrowsOf_c_yes <;> assumption
  · apply iBorrowsOf_c_no <;> assumption

theorem iTakeDigit_c_no (u : Int) (l : Int) (xs : List IntA2) (rod : Int) (d : Int) (vxs : Value) (w : World) (zu : In64 u) (zl : In64 l) (hGxs : ∀ y ∈ xs, GIntA2 y) (hsxs : SR w 2 vxs xs.length (flat encIntA2 xs)) (zrod : In64 rod) (zd : In64 d) (hc : takeDB u l xs rod d = false) : Calls Try.prog 39 ([.agg (List.toArray (α := Value) [.int .i64 u, .int .i64 l, vxs]), .int .i64 rod, .int .i64 d]).toArray w (fun e w' => RetSl 81 2 (flat encIntA2 (okR (takeDB u l xs rod d) u l (takeS (rod.toNat + 1) xs d).1).xs) (okR (takeDB u l xs rod d) u l (takeS (rod.toNat + 1) xs d).1).xs.length (fun s => .tuple #[.agg [.int .i64 (okR (takeDB u l xs rod d) u l (takeS (rod.toNat + 1) xs d).1).u, .int .i64 (okR (takeDB u l xs rod d) u l (takeS (rod.toNat + 1) xs d).1).l, s].toArray, .bool (okR (takeDB u l xs rod d) u l (takeS (rod.toNat + 1) xs d).1).ok]) w e w') := by
  obtain ⟨axs, capxs, rfl, hcapxs, hmaxxs⟩ := hsxs.slice
  have hlenxs := hsxs.len_le
  refine calls_ct Try.func39 Try.ntmps39 rfl rfl ?_
  refine ct_seq ?_
  refine ct_reg ?_
  refine rl_box rfl rfl (fun N1 => ?_)
  refine rl_alloc ze26 rfl (fun N2 => ?_)
  refine rl_val gw_none (ov_assign rfl) rfl ?_
  refine rl_nil ?_
  refine at_then ?_
  refine ct_seq ?_
  refine ct_reg ?_
  first | refine rl_val gw_none (ov_loadall 1 ag26 rfl rfl rfl) rfl ?_ | refine rl_val gw_none (ov_loadp 1 ag26 rfl rfl (vs := [_, _, _]) rfl rfl) rfl ?_ | refine rl_val gw_none (ov_loada 1 ag26 rfl rfl rfl (by assumption)) rfl ?_
  refine rl_val gw_none (ov_move rfl) rfl ?_
  refine rl_val gw_none (ov_move rfl) rfl ?_
  refine rl_callv gw_none goes102 rfl (fun w1 hp => takeDigit_no u l xs _ rod d _ zu zl hGxs (hsxs.ext hp.ext0) zrod zd hc) rfl ?_
  refine rl_val gw_none (ov_move rfl) rfl ?_
  refine rl_val gw_none (ov_extract rfl rfl) rfl ?_
  refine rl_val gw_none (ov_extract rfl rfl) rfl ?_
  refine rl_val gw_none (ov_assign rfl) rfl ?_
  refine rl_val gw_none (ov_assign rfl) rfl ?_
  refine rl_nil ?_
  refine at_then ?_
  refine ct_seq ?_
  refine ct_seq ?_
  refine ct_reg ?_
  refine rl_val gw_none (ov_move rfl) rfl ?_
  refine rl_val gw_none (ov_not rfl) rfl ?_
  refine rl_nil ?_
  refine at_then ?_
  first | refine ct_dec rfl (fun h1 => ?_) (fun h1 => ?_) | refine ct_ndec rfl (fun h1 => ?_) (fun h1 => ?_) | refine ct_eq rfl (fun h1 => ?_) (fun h1 => ?_) | refine ct_ne rfl (fun h1 => ?_) (fun h1 => ?_) | refine ct_not rfl (fun h1 => ?_) (fun h1 => ?_) | refine ct_cond rfl (fun h1 => ?_) (fun h1 => ?_)
  ·
    refine ct_seq ?_
    refine ct_reg ?_
    refine rl_val gw_none (ov_build rfl (bu26_)) rfl ?_
    refine rl_store [] sz26 rfl rfl rfl rfl rfl (Nat.le_of_ble_eq_true rfl) ?_
    refine rl_val gw_none (ov_assign rfl) rfl ?_
    refine rl_nil ?_
    refine at_then ?_
    refine ct_ret ?_
    refine at_then_ret ?_
    refine at_ret2 Try.results39 (ro_cell 0 ag26 rfl rfl rfl) (ro_tmp rfl) (fun w1 hp => ?_)
    rw [okR_no hc]; exact RetSl.nil hp.ext0
  ·
    cases h1

theorem iTakeDigit_c_yes (u : Int) (l : Int) (xs : List IntA2) (rod : Int) (d : Int) (vxs : Value) (w : World) (zu : In64 u) (zl : In64 l) (hGxs : ∀ y ∈ xs, GIntA2 y) (hsxs : SR w 2 vxs xs.length (flat encIntA2 xs)) (zrod : In64 rod) (zd : In64 d) (hc : takeDB u l xs rod d = true) : Calls Try.prog 39 ([.agg (List.toArray (α := Value) [.int .i64 u, .int .i64 l, vxs]), .int .i64 rod, .int .i64 d]).toArray w (fun e w' => RetSl 81 2 (flat encIntA2 (okR (takeDB u l xs rod d) u l (takeS (rod.toNat + 1) xs d).1).xs) (okR (takeDB u l xs rod d) u l (takeS (rod.toNat + 1) xs d).1).xs.length (fun s => .tuple #[.agg [.int .i64 (okR (takeDB u l xs rod d) u l (takeS (rod.toNat + 1) xs d).1).u, .int .i64 (okR (takeDB u l xs rod d) u l (takeS (rod.toNat + 1) xs d).1).l, s].toArray, .bool (okR (takeDB u l xs rod d) u l (takeS (rod.toNat + 1) xs d).1).ok]) w e w') := by
  obtain ⟨axs, capxs, rfl, hcapxs, hmaxxs⟩ := hsxs.slice
  have hlenxs := hsxs.len_le
  refine calls_ct Try.func39 Try.ntmps39 rfl rfl ?_
  refine ct_seq ?_
  refine ct_reg ?_
  refine rl_box rfl rfl (fun N1 => ?_)
  refine rl_alloc ze26 rfl (fun N2 => ?_)
  refine rl_val gw_none (ov_assign rfl) rfl ?_
  refine rl_nil ?_
  refine at_then ?_
  refine ct_seq ?_
  refine ct_reg ?_
  first | refine rl_val gw_none (ov_loadall 1 ag26 rfl rfl rfl) rfl ?_ | refine rl_val gw_none (ov_loadp 1 ag26 rfl rfl (vs := [_, _, _]) rfl rfl) rfl ?_ | refine rl_val gw_none (ov_loada 1 ag26 rfl rfl rfl (by assumption)) rfl ?_
  refine rl_val gw_none (ov_move rfl) rfl ?_
  refine rl_val gw_none (ov_move rfl) rfl ?_
  refine rl_calle (ι := Nat × Nat × Nat × List Value × Option Nat × Nat × List Value × List BeadMove) (fun q => .tuple #[.pointer (some ⟨q.1, 0, none⟩), .bool true]) (fun q => [(some q.1, 91, [.int .i64 u, .int .i64 l, sv (some q.2.1) ((takeS (rod.toNat + 1) xs d).1).length q.2.2.1, sv q.2.2.2.2.1 (q.2.2.2.2.2.2.2).length q.2.2.2.2.2.1, .int .i64 (0 + ((takeS (rod.toNat + 1) xs d).2 : Nat))]), (some q.2.1, 81, flat encIntA2 ((takeS (rod.toNat + 1) xs d).1) ++ q.2.2.2.1), (q.2.2.2.2.1, 128, flat encBeadMove (q.2.2.2.2.2.2.2) ++ q.2.2.2.2.2.2.1)]) (fun q => Sl 2 (some q.2.1) ((takeS (rod.toNat + 1) xs d).1).length q.2.2.1 (flat encIntA2 ((takeS (rod.toNat + 1) xs d).1)) q.2.2.2.1 ∧ Sl 3 q.2.2.2.2.1 q.2.2.2.2.2.2.2.length q.2.2.2.2.2.1 (flat encBeadMove q.2.2.2.2.2.2.2) q.2.2.2.2.2.2.1) goes102 rfl (fun w1 hp => takeDigit_yes u l xs _ rod d _ zu zl hGxs (hsxs.ext hp.ext0) zrod zd hc) rfl (fun qw hqw => ?_)
  obtain ⟨bw, br, rc, rp, bm, mc, mp, ms⟩ := qw
  obtain ⟨hsr2, hsm2⟩ := hqw
  try dsimp only at hsr2 hsm2 ⊢
  refine rl_val gw_none (ov_move rfl) rfl ?_
  refine rl_val gw_none (ov_extract rfl rfl) rfl ?_
  refine rl_val gw_none (ov_extract rfl rfl) rfl ?_
  refine rl_val gw_none (ov_assign rfl) rfl ?_
  refine rl_val gw_none (ov_assign rfl) rfl ?_
  refine rl_nil ?_
  refine at_then ?_
  refine ct_seq ?_
  refine ct_seq ?_
  refine ct_reg ?_
  refine rl_val gw_none (ov_move rfl) rfl ?_
  refine rl_val gw_none (ov_not rfl) rfl ?_
  refine rl_nil ?_
  refine at_then ?_
  first | refine ct_dec rfl (fun h1 => ?_) (fun h1 => ?_) | refine ct_ndec rfl (fun h1 => ?_) (fun h1 => ?_) | refine ct_eq rfl (fun h1 => ?_) (fun h1 => ?_) | refine ct_ne rfl (fun h1 => ?_) (fun h1 => ?_) | refine ct_not rfl (fun h1 => ?_) (fun h1 => ?_) | refine ct_cond rfl (fun h1 => ?_) (fun h1 => ?_)
  ·
    cases h1
  ·
    refine ct_skip ?_
    refine at_then ?_
    refine ct_seq ?_
    refine ct_reg ?_
    refine rl_val gw_none (ov_move rfl) rfl ?_
    refine rl_val gw_none (ov_nilc rfl) rfl ?_
    refine rl_val gw_none (ov_field fo91_0 rfl) rfl ?_
    first | refine rl_val gw_none (ov_loadall 0 ag26 rfl rfl rfl) rfl ?_ | refine rl_val gw_none (ov_loadp 0 ag26 rfl rfl (vs := [_, _, _]) rfl rfl) rfl ?_ | refine rl_val gw_none (ov_loada 0 ag26 rfl rfl rfl (by assumption)) rfl ?_
    refine rl_store [_, _, _] sz26 rfl rfl rfl rfl rfl (Nat.le_of_ble_eq_true rfl) ?_
    refine rl_val gw_none (ov_assign rfl) rfl ?_
    refine rl_nil ?_
    refine at_then ?_
    refine ct_ret ?_
    refine at_ret2 Try.results39 (ro_cell 3 ag26 rfl rfl rfl) (ro_tmp rfl) (fun w1 hp => ?_)
    rw [okR_yes hc]; exact RetSl.own 1 hp rfl hsr2

theorem iTakeDigit_c (u : Int) (l : Int) (xs : List IntA2) (rod : Int) (d : Int) (vxs : Value) (w : World) (zu : In64 u) (zl : In64 l) (hGxs : ∀ y ∈ xs, GIntA2 y) (hsxs : SR w 2 vxs xs.length (flat encIntA2 xs)) (zrod : In64 rod) (zd : In64 d) : Calls Try.prog 39 ([.agg (List.toArray (α := Value) [.int .i64 u, .int .i64 l, vxs]), .int .i64 rod, .int .i64 d]).toArray w (fun e w' => RetSl 81 2 (flat encIntA2 (okR (takeDB u l xs rod d) u l (takeS (rod.toNat + 1) xs d).1).xs) (okR (takeDB u l xs rod d) u l (takeS (rod.toNat + 1) xs d).1).xs.length (fun s => .tuple #[.agg [.int .i64 (okR (takeDB u l xs rod d) u l (takeS (rod.toNat + 1) xs d).1).u, .int .i64 (okR (takeDB u l xs rod d) u l (takeS (rod.toNat + 1) xs d).1).l, s].toArray, .bool (okR (takeDB u l xs rod d) u l (takeS (rod.toNat + 1) xs d).1).ok]) w e w') := by
  rcases Bool.eq_false_or_eq_true (takeDB u l xs rod d) with hc | hc
  · apply iTakeDigit_c_yes <;> assumption
  · apply iTakeDigit_c_no <;> assumption
end Go.Proofs.Ytnnhkpecgchgiaa
