import Derived.Test.YtjhlhkglpecdbaaZj
import Derived.Test.YtjhlhkglpecdbaaHc
import Derived.Test.YtjhlhkglpecdbaaDa
import Derived.Test.YtjhlhkglpecdbaaVa
import Derived.KernelRfl
set_option linter.unusedVariables false
set_option linter.unusedSimpArgs false
namespace Go.Proofs.Ytjhlhkglpecdbaa
open Go Go.RowKit K
def ReachQ (d : Nat) : Prop := ∀ (u l : Int) (xs : List IntA2) (vxs : Value) (acc : List Int) (bo : Option Nat) (cap : Nat) (pad : List Value) (D : List Nat) (w : World) (h0 : Hp ⟨w, D⟩ [(bo, 3, ints acc ++ pad)] w) (hsl : Sl 1 bo acc.length cap (ints acc) pad) (zu : In64 u) (zl : In64 l) (hG : ∀ y ∈ xs, GIntA2 y) (hsd : SRD w D 2 vxs xs.length (flat encIntA2 xs)) (at_ : Nat) (i m : Int) (hi : i = at_) (hf : frameB u l xs = true) (h2 : xs.length ≤ 2) (hm : 0 ≤ m ∧ m ≤ 10) (hob : outB acc) (hd : at_ + d = 2 * xs.length),
    Calls Try.prog 20 [.agg (List.toArray (α := Value) [.int .i64 u, .int .i64 l, vxs]), .int .i64 i, .int .i64 m, sv bo acc.length cap].toArray w (fun e w' => ∃ i : Option Nat × Nat × List Value, Sl 1 i.1 (reachI u l d xs at_ m acc).length i.2.1 (ints (reachI u l d xs at_ m acc)) i.2.2 ∧ e = .returned (sv i.1 (reachI u l d xs at_ m acc).length i.2.1) ∧ Hp ⟨w, D⟩ [(i.1, 3, ints (reachI u l d xs at_ m acc) ++ i.2.2)] w')

theorem reached_0 (u l : Int) (xs : List IntA2) (vxs : Value) (acc : List Int) (bo : Option Nat) (cap : Nat) (pad : List Value) (D : List Nat) (w : World) (h0 : Hp ⟨w, D⟩ [(bo, 3, ints acc ++ pad)] w) (hsl : Sl 1 bo acc.length cap (ints acc) pad) (zu : In64 u) (zl : In64 l) (hG : ∀ y ∈ xs, GIntA2 y) (hsd : SRD w D 2 vxs xs.length (flat encIntA2 xs)) (at_ : Nat) (i m : Int) (hi : i = at_) (hf : frameB u l xs = true) (h2 : xs.length ≤ 2) (hm : 0 ≤ m ∧ m ≤ 10) (hob : outB acc) (hd : at_ = 2 * xs.length) : Calls Try.prog 20 ([.agg (List.toArray (α := Value) [.int .i64 u, .int .i64 l, vxs]), .int .i64 i, .int .i64 m, sv bo acc.length cap]).toArray w (fun e w' => ∃ i : Option Nat × Nat × List Value, Sl 1 i.1 (reachI u l 0 xs at_ m acc).length i.2.1 (ints (reachI u l 0 xs at_ m acc)) i.2.2 ∧ e = .returned (sv i.1 (reachI u l 0 xs at_ m acc).length i.2.1) ∧ Hp ⟨w, D⟩ [(i.1, 3, ints (reachI u l 0 xs at_ m acc) ++ i.2.2)] w') := by
  subst hi
  obtain ⟨a, capx, rfl, hcapx, hmaxx⟩ := hsd.slice
  obtain ⟨hu, hl, hxl⟩ := frameB_ul hf
  have h8 : xs.length ≤ 8 := by omega
  have hol := hob.len
  refine calls_ctds h0 Try.func20 Try.ntmps20 rfl rfl ?_
  refine ct_seq ?_
  refine ct_reg ?_
  refine rl_box rfl rfl (fun N1 => ?_)
  refine rl_val gw_none (ov_assign rfl) rfl ?_
  refine rl_nil ?_
  refine at_then ?_
  refine ct_seq ?_
  refine ct_seq ?_
  refine ct_reg ?_
  refine rl_val gw_none (ov_move rfl) rfl ?_
  refine rl_val gw_none (ov_field fo29_2 rfl) rfl ?_
  first | refine rl_val gw_none (ov_load 0 sc22 rfl rfl rfl) rfl ?_ | refine rl_val gw_none (ov_load 0 sc22 rfl rfl (by assumption)) rfl ?_
  refine rl_val gw_none (ov_len Try.underlying22 rfl) rfl ?_
  refine rl_val gw_none (ov_mul rfl rfl (by omega)) rfl ?_
  refine rl_val gw_none (ov_eql rfl rfl) rfl ?_
  refine rl_nil ?_
  refine at_then ?_
  first | refine ct_dec rfl (fun h1 => ?_) (fun h1 => ?_) | refine ct_ndec rfl (fun h1 => ?_) (fun h1 => ?_) | refine ct_eq rfl (fun h1 => ?_) (fun h1 => ?_) | refine ct_ne rfl (fun h1 => ?_) (fun h1 => ?_) | refine ct_not rfl (fun h1 => ?_) (fun h1 => ?_) | refine ct_cond rfl (fun h1 => ?_) (fun h1 => ?_)
  ·
    refine ct_seq ?_
    refine ct_reg ?_
    refine rl_val gw_none (ov_move rfl) rfl ?_
    first | refine rl_val gw_none (ov_loadall 0 ag29 rfl rfl rfl) rfl ?_ | refine rl_val gw_none (ov_loadp 0 ag29 rfl rfl (vs := [_, _, _]) rfl rfl) rfl ?_ | refine rl_val gw_none (ov_loada 0 ag29 rfl rfl rfl (by assumption)) rfl ?_
    refine rl_callv gw_none goes29 rfl (fun w1 hp => number_c u l xs _ _ zu zl hG (hsd.sr hp) hf) rfl ?_
    refine rl_calld (ι := Option Nat × Nat × List Value) (fun i => sv i.1 (putL acc (numF xs)).length i.2.1) [_] [_] (fun i => [(i.1, 3, ints (putL acc (numF xs)) ++ i.2.2)]) (fun i => Sl 1 i.1 (putL acc (numF xs)).length i.2.1 (ints (putL acc (numF xs))) i.2.2) gw_none goes28 rfl (fun _ hq => (hq).pull 1 rfl) (fun w1 hp h0 => putInt_c acc (numF xs) _ _ _ _ _ h0 hsl hob.1 (by omega)) rfl (fun iput hput => ?_)
    refine rl_val gw_none (ov_assign rfl) rfl ?_
    refine rl_nil ?_
    refine at_then ?_
    refine ct_ret ?_
    refine at_then_ret ?_
    refine at_ret1 Try.results20 (ro_tmp rfl) (fun w1 hp => ?_)
    rw [reachI]
    exact ⟨iput, hput, rfl, (Hp.sub (Hp.pull hp 0 rfl) (List.sublist_append_left [_] _))⟩
  ·
    omega
end Go.Proofs.Ytjhlhkglpecdbaa
