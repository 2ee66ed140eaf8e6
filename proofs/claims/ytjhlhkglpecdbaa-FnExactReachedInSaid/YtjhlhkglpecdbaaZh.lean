import Derived.Test.YtjhlhkglpecdbaaZg
import Derived.Test.YtjhlhkglpecdbaaTb
import Derived.KernelRfl
set_option linter.unusedVariables false
set_option linter.unusedSimpArgs false
namespace Go.Proofs.Ytjhlhkglpecdbaa
open Go Go.RowKit K
def ReachP (d : Nat) : Prop := ∀ (u l : Int) (xs : List IntA2) (vxs : Value) (w : World) (zu : In64 u) (zl : In64 l) (hGxs : ∀ y ∈ xs, GIntA2 y) (hsxs : SR w 2 vxs xs.length (flat encIntA2 xs)) (k : Nat) (i m : Int), i = k → k + d = xs.length → frameB u l xs = true → xs.length ≤ 2 → 0 ≤ m ∧ m ≤ 10 →
    Calls Try.prog 16 [.agg (List.toArray (α := Value) [.int .i64 u, .int .i64 l, vxs]), .int .i64 i, .int .i64 m].toArray w (fun e w' => RetSl 3 1 (ints (reachS u l d xs k m)) (reachS u l d xs k m).length (fun s => s) w e w')

theorem l13Reach_0 (u : Int) (l : Int) (xs : List IntA2) (vxs : Value) (w : World) (zu : In64 u) (zl : In64 l) (hGxs : ∀ y ∈ xs, GIntA2 y) (hsxs : SR w 2 vxs xs.length (flat encIntA2 xs)) (k : Nat) (i m : Int) (hi : i = k) (hkd : k + 0 = xs.length) (hf : frameB u l xs = true) (hl2 : xs.length ≤ 2) (hm : 0 ≤ m ∧ m ≤ 10) : Calls Try.prog 16 ([.agg (List.toArray (α := Value) [.int .i64 u, .int .i64 l, vxs]), .int .i64 i, .int .i64 m]).toArray w (fun e w' => RetSl 3 1 (ints (reachS u l 0 xs k m)) (reachS u l 0 xs k m).length (fun s => s) w e w') := by
  subst hi
  obtain ⟨axs, capxs, rfl, hcapxs, hmaxxs⟩ := hsxs.slice
  have hlenxs := hsxs.len_le
  obtain ⟨hu, hl, hxl⟩ := frameB_ul hf
  have h8 : xs.length ≤ 8 := by omega
  refine calls_ct Try.func16 Try.ntmps16 rfl rfl ?_
  refine ct_seq ?_
  refine ct_reg ?_
  refine rl_box rfl rfl (fun N1 => ?_)
  refine rl_val gw_none (ov_assign rfl) rfl ?_
  refine rl_nil ?_
  refine at_then ?_
  refine ct_seq ?_
  refine ct_seq ?_
  refine ct_reg ?_
  refine rl_val gw_none (ov_move rfl) rfl ?_
  refine rl_val gw_none (ov_field fo29_2 rfl) rfl ?_
  first | refine rl_val gw_none (ov_load 0 sc22 rfl rfl rfl) rfl ?_ | refine rl_val gw_none (ov_load 0 sc22 rfl rfl (by assumption)) rfl ?_
  refine rl_val gw_none (ov_len Try.underlying22 rfl) rfl ?_
  refine rl_val gw_none (ov_eql rfl rfl) rfl ?_
  refine rl_nil ?_
  refine at_then ?_
  first | refine ct_dec rfl (fun h1 => ?_) (fun h1 => ?_) | refine ct_ndec rfl (fun h1 => ?_) (fun h1 => ?_) | refine ct_eq rfl (fun h1 => ?_) (fun h1 => ?_) | refine ct_ne rfl (fun h1 => ?_) (fun h1 => ?_) | refine ct_not rfl (fun h1 => ?_) (fun h1 => ?_) | refine ct_cond rfl (fun h1 => ?_) (fun h1 => ?_)
  ·
    refine ct_seq ?_
    refine ct_reg ?_
    refine rl_bslice Try.underlying26 ze3 sz3 rfl rfl rfl rfl rfl rfl (fun N2 => ?_)
    refine rl_val gw_none (ov_assign rfl) rfl ?_
    refine rl_nil ?_
    refine at_then ?_
    refine ct_ret ?_
    refine at_then_ret ?_
    refine at_ret1 Try.results16 (ro_tmp rfl) (fun w1 hp => ?_)
    exact RetSl.lit 0 hp rfl rfl (by rw [reachS]; decide)
  ·
    omega
end Go.Proofs.Ytjhlhkglpecdbaa
