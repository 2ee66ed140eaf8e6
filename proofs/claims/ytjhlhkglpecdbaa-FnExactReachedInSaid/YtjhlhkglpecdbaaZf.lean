import Derived.Test.YtjhlhkglpecdbaaFa
import Derived.Test.YtjhlhkglpecdbaaHb
import Derived.Test.YtjhlhkglpecdbaaKo
import Derived.KernelRfl
set_option linter.unusedVariables false
set_option linter.unusedSimpArgs false
namespace Go.Proofs.Ytjhlhkglpecdbaa
open Go Go.RowKit K
theorem putInt_c (xs : List Int) (n : Int) (bo : Option Nat) (cap : Nat) (pad : List Value) (D : List Nat) (w : World) (h0 : Hp ⟨w, D⟩ [(bo, 3, ints xs ++ pad)] w) (hsl : Sl 1 bo xs.length cap (ints xs) pad) (hr : risL xs) (hl : xs.length ≤ 1000) : Calls Try.prog 28 ([sv bo xs.length cap, .int .i64 n]).toArray w (fun e w' => ∃ i : Option Nat × Nat × List Value, Sl 1 i.1 (putL xs n).length i.2.1 (ints (putL xs n)) i.2.2 ∧ e = .returned (sv i.1 (putL xs n).length i.2.1) ∧ Hp ⟨w, D⟩ [(i.1, 3, ints (putL xs n) ++ i.2.2)] w') := by
  have hcl := hsl.le
  have hmx := hsl.max
  have hmm : maxLen = 9223372036854775807 := rfl
  refine calls_ctds h0 Try.func28 Try.ntmps28 rfl rfl ?_
  refine ct_seq ?_
  refine ct_reg ?_
  refine rl_val gw_none (ov_assign rfl) rfl ?_
  refine rl_nil ?_
  refine at_then ?_
  refine ct_seq ?_
  refine ct_reg ?_
  refine rl_val gw_none (ov_move rfl) rfl ?_
  refine rl_val gw_none (ov_len Try.underlying26 rfl) rfl ?_
  refine rl_val gw_none (ov_assign rfl) rfl ?_
  refine rl_nil ?_
  refine at_then ?_
  refine ct_cutS (ι := Nat) (fun k => [(5, .int .i64 k)]) [(0, _), (1, _), (4, _)] _ (fun k => k ≤ xs.length ∧ (∀ j x, k ≤ j → xs[j]? = some x → n < x) ∧ (k = 0 ∨ ∃ x, xs[k - 1]? = some x ∧ x ≤ n)) (Sub.cons rfl (Sub.cons rfl (Sub.cons rfl Sub.nil))) (fun _ hq => hq) ?_ (fun k hi => ?_)
  ·
    refine ct_block ?_
    refine ct_loopR (ι := Nat) (fun k => [(5, .int .i64 k)]) [(0, _), (1, _), (4, _)] (fun _ => _) (fun k => k ≤ xs.length ∧ ∀ j x, k ≤ j → xs[j]? = some x → n < x) (fun k => k) (xs.length) (Sub.cons rfl (Sub.cons rfl (Sub.cons rfl Sub.nil))) (fun _ hq => hq) (by (repeat' (first | exact Sub.nil | refine Sub.cons ?_ ?_)); all_goals (first | rfl | exact lkInt rfl (by omega))) ⟨Nat.le_refl _, fun j x hj hx => by have := (List.getElem?_eq_some_iff.1 hx).1; omega⟩ (fun k hi => ?_)
    obtain ⟨hk, hall⟩ := hi
    refine ct_seq ?_
    refine ct_seq ?_
    refine ct_reg ?_
    refine rl_val gw_none (ov_move rfl) rfl ?_
    refine rl_val gw_none (ov_gtr rfl rfl) rfl ?_
    refine rl_val gw_none (ov_move rfl) rfl ?_
    refine rl_split (t := 10) rfl (fun g1 => ?_) (fun g1 => ?_)
    ·
      have hk0 : 0 < k := by first | omega | (simpa using g1)
      obtain ⟨bz, rfl⟩ := slSomeG hsl (by omega)
      have hx := getLt (show k - 1 < xs.length by omega)
      generalize xs[k - 1] = x at *
      refine rl_val (gw_some rfl rfl g1) (ov_move rfl) rfl ?_
      refine rl_val (gw_some rfl rfl g1) (ov_move rfl) rfl ?_
      refine rl_val (gw_some rfl rfl g1) (ov_sub rfl rfl (by omega)) rfl ?_
      first | refine rl_val (gw_some rfl rfl g1) (ov_ix Try.underlying26 sz3 rfl rfl _ rfl (by omega)) rfl ?_ | refine rl_val (gw_some rfl rfl g1) (ov_ix Try.underlying26 sz3 rfl rfl (k - 1) (by omega) (by omega)) rfl ?_ | refine rl_val (gw_some rfl rfl g1) (ov_ix Try.underlying26 sz3 rfl rfl (k) (by omega) (by omega)) rfl ?_
      refine rl_val (gw_some rfl rfl g1) (ov_load 0 sc3 rfl rfl (intsAtP hx pad)) rfl ?_
      refine rl_val (gw_some rfl rfl g1) (ov_move rfl) rfl ?_
      refine rl_val (gw_some rfl rfl g1) (ov_gtr rfl rfl) rfl ?_
      refine rl_val gw_none (ov_pick_t rfl g1 rfl) rfl ?_
      refine rl_nil ?_
      refine at_then ?_
      first | refine ct_dec rfl (fun h1 => ?_) (fun h1 => ?_) | refine ct_ndec rfl (fun h1 => ?_) (fun h1 => ?_) | refine ct_eq rfl (fun h1 => ?_) (fun h1 => ?_) | refine ct_ne rfl (fun h1 => ?_) (fun h1 => ?_) | refine ct_not rfl (fun h1 => ?_) (fun h1 => ?_) | refine ct_cond rfl (fun h1 => ?_) (fun h1 => ?_)
      ·
        refine ct_skip ?_
        refine at_then ?_
        refine ct_block ?_
        refine ct_reg ?_
        refine rl_val gw_none (ov_move rfl) rfl ?_
        refine rl_val gw_none (ov_sub rfl rfl (by omega)) rfl ?_
        refine rl_val gw_none (ov_assign rfl) rfl ?_
        refine rl_nil ?_
        refine at_block ?_
        exact at_backR (k - 1) ⟨by omega, fun j y hj hy => by by_cases hjk : j = k - 1; exact (by subst hjk; rw [hx] at hy; obtain rfl := Option.some.inj hy; omega); exact hall j y (by omega) hy⟩ (by first | exact True.intro | omega | (dsimp only; omega) | (dsimp only at *; omega)) (by (repeat' (first | exact Sub.nil | refine Sub.cons ?_ ?_)); all_goals (first | rfl | exact lkInt rfl (by omega))) (Sub.cons rfl (Sub.cons rfl (Sub.cons rfl Sub.nil))) (fun _ hq => hq)
      ·
        refine ct_exit ?_
        refine at_then_exit ?_
        refine at_then_exit ?_
        refine at_block_hit ?_
        exact at_handR k ⟨hk, hall, by first | (left; omega) | (right; exact ⟨x, hx, by omega⟩)⟩ (by (repeat' (first | exact Sub.nil | refine Sub.cons ?_ ?_)); all_goals (first | rfl | exact lkInt rfl (by omega))) (Sub.cons rfl (Sub.cons rfl (Sub.cons rfl Sub.nil))) (fun _ hq => hq)
    ·
      have hk0 : k = 0 := by simp at g1; omega
      refine rl_skip (gw_not rfl rfl g1) rfl ?_
      refine rl_skip (gw_not rfl rfl g1) rfl ?_
      refine rl_skip (gw_not rfl rfl g1) rfl ?_
      refine rl_skip (gw_not rfl rfl g1) rfl ?_
      refine rl_skip (gw_not rfl rfl g1) rfl ?_
      refine rl_skip (gw_not rfl rfl g1) rfl ?_
      refine rl_skip (gw_not rfl rfl g1) rfl ?_
      refine rl_val gw_none (ov_pick_f rfl g1 rfl) rfl ?_
      refine rl_nil ?_
      refine at_then ?_
      refine ct_false rfl rfl ?_
      refine ct_exit ?_
      refine at_then_exit ?_
      refine at_then_exit ?_
      refine at_block_hit ?_
      exact at_handR k ⟨hk, hall, by first | (left; omega) | (right; exact ⟨x, hx, by omega⟩)⟩ (by (repeat' (first | exact Sub.nil | refine Sub.cons ?_ ?_)); all_goals (first | rfl | exact lkInt rfl (by omega))) (Sub.cons rfl (Sub.cons rfl (Sub.cons rfl Sub.nil))) (fun _ hq => hq)
  ·
    obtain ⟨hk, hall, hfin⟩ := hi
    refine ct_seq ?_
    refine ct_seq ?_
    refine ct_reg ?_
    refine rl_val gw_none (ov_move rfl) rfl ?_
    refine rl_val gw_none (ov_gtr rfl rfl) rfl ?_
    refine rl_val gw_none (ov_move rfl) rfl ?_
    refine rl_split (t := 23) rfl (fun g2 => ?_) (fun g2 => ?_)
    ·
      have hk0 : 0 < k := by first | omega | (simpa using g2)
      obtain ⟨bz, rfl⟩ := slSomeG hsl (by omega)
      have hx := getLt (show k - 1 < xs.length by omega)
      generalize xs[k - 1] = x at *
      refine rl_val (gw_some rfl rfl g2) (ov_move rfl) rfl ?_
      refine rl_val (gw_some rfl rfl g2) (ov_move rfl) rfl ?_
      refine rl_val (gw_some rfl rfl g2) (ov_sub rfl rfl (by omega)) rfl ?_
      first | refine rl_val (gw_some rfl rfl g2) (ov_ix Try.underlying26 sz3 rfl rfl _ rfl (by omega)) rfl ?_ | refine rl_val (gw_some rfl rfl g2) (ov_ix Try.underlying26 sz3 rfl rfl (k - 1) (by omega) (by omega)) rfl ?_ | refine rl_val (gw_some rfl rfl g2) (ov_ix Try.underlying26 sz3 rfl rfl (k) (by omega) (by omega)) rfl ?_
      refine rl_val (gw_some rfl rfl g2) (ov_load 0 sc3 rfl rfl (intsAtP hx pad)) rfl ?_
      refine rl_val (gw_some rfl rfl g2) (ov_move rfl) rfl ?_
      refine rl_val (gw_some rfl rfl g2) (ov_eql rfl rfl) rfl ?_
      refine rl_val gw_none (ov_pick_t rfl g2 rfl) rfl ?_
      refine rl_nil ?_
      refine at_then ?_
      first | refine ct_dec rfl (fun h2 => ?_) (fun h2 => ?_) | refine ct_ndec rfl (fun h2 => ?_) (fun h2 => ?_) | refine ct_eq rfl (fun h2 => ?_) (fun h2 => ?_) | refine ct_ne rfl (fun h2 => ?_) (fun h2 => ?_) | refine ct_not rfl (fun h2 => ?_) (fun h2 => ?_) | refine ct_cond rfl (fun h2 => ?_) (fun h2 => ?_)
      ·
        refine ct_seq ?_
        refine ct_reg ?_
        refine rl_val gw_none (ov_move rfl) rfl ?_
        refine rl_val gw_none (ov_assign rfl) rfl ?_
        refine rl_nil ?_
        refine at_then ?_
        refine ct_ret ?_
        refine at_then_ret ?_
        refine at_ret1 Try.results28 (ro_tmp rfl) (fun w1 hp => ?_)
        rw [show putL xs n = xs from putL_in (k := k - 1) (by rw [hx]; congr 1)]
        exact ⟨(_, cap, pad), hsl, rfl, (Hp.sub (Hp.pull hp 0 rfl) (List.sublist_append_left [_] _))⟩
      ·
        refine ct_skip ?_
        refine at_then ?_
        refine ct_seq ?_
        refine ct_reg ?_
        refine rl_val gw_none (ov_move rfl) rfl ?_
        refine rl_bslice Try.underlying26 ze3 sz3 rfl rfl rfl rfl rfl rfl (fun N1 => ?_)
        refine rl_appT (ints) (ints_append) [_] (acc := xs) Try.underlying26 ze3 sz3 rfl rfl by3 rfl rfl rfl hsl ([0]) rfl (fun w1 hp => hp.sr1 0 rfl rfl (by decide)) (ints_one _) (by unfold maxLen; omega) (by omega) rfl (fun boq1 capq1 padq1 hsq1 => ?_)
        have hnew : putL xs n = xs.take k ++ [n] ++ xs.drop k := put_right hr hk hall (by rcases hfin with hfin | ⟨y, hy, hyn⟩; exact .inl hfin; exact .inr ⟨y, hy, by first | omega | (have := hall (k - 1) y (by omega) hy; omega) | (rw [hx] at hy; obtain rfl := Option.some.inj hy; first | omega | (simp at *; omega))⟩)
        obtain ⟨bq1, rfl⟩ := slSomeG hsq1 (by simp)
        have hol : (xs ++ [(0 : Int)]).length = xs.length + 1 := by simp
        have hleq1 := hsq1.le
        have hmxq1 := hsq1.max
        refine rl_val gw_none (ov_assign rfl) rfl ?_
        refine rl_nil ?_
        refine at_then ?_
        refine ct_seq ?_
        refine ct_dr 7 (by kernel_rfl) (by kernel_rfl) ?_
        refine ql_val gw_none (ov_move rfl) rfl ?_
        refine ql_val gw_none (ov_move rfl) rfl ?_
        refine ql_val gw_none (ov_add rfl rfl (by omega)) rfl ?_
        refine ql_val gw_none (ov_subl Try.underlying26 sz3 rfl rfl (k + 1) (by omega) (by omega)) rfl ?_
        refine ql_val gw_none (ov_move rfl) rfl ?_
        refine ql_val gw_none (ov_move rfl) rfl ?_
        refine ql_val gw_none (ov_subl Try.underlying26 sz3 rfl rfl (k) (by omega) (by omega)) rfl ?_
        refine ql_nil ?_
        refine rl_copy [_] Try.underlying26 sz3 rfl rfl rfl rfl (fun w1 hp => (SR.drop (hp.slsr 1 rfl hsq1) (lo := k) (by omega) (by omega)).cast rfl (show (ints (xs ++ [(0 : Int)])).drop (k * 1) = ints ((xs ++ [(0 : Int)]).drop k) by rw [Nat.mul_one]; simp [ints])) (xs.length - k) (by show _ = min _ _; omega) (by omega) (by rw [List.length_append, ints_length, hol]; omega) (ints_one _) rfl ?_
        refine rl_mem (fun _ hq => hq.cong (congrArg (fun x => _ :: (_, _, x) :: _) (copyFoldI (by omega) _))) ?_
        refine rl_nil ?_
        refine at_then ?_
        refine ct_seq ?_
        refine ct_reg ?_
        refine rl_val gw_none (ov_move rfl) rfl ?_
        refine rl_val gw_none (ov_move rfl) rfl ?_
        refine rl_val gw_none (ov_move rfl) rfl ?_
        first | refine rl_val gw_none (ov_ix Try.underlying26 sz3 rfl rfl _ rfl (by omega)) rfl ?_ | refine rl_val gw_none (ov_ix Try.underlying26 sz3 rfl rfl (k - 1) (by omega) (by omega)) rfl ?_ | refine rl_val gw_none (ov_ix Try.underlying26 sz3 rfl rfl (k) (by omega) (by omega)) rfl ?_
        refine rl_store [_] sz3 rfl rfl rfl rfl rfl (by rw [List.length_append, ints_length]; simp; omega) ?_
        refine rl_mem (fun _ hq => hq.cong (congrArg (fun x => _ :: (_, _, x) :: _) (insPutI hk hnew _))) ?_
        refine rl_nil ?_
        refine at_then ?_
        refine ct_seq ?_
        refine ct_reg ?_
        refine rl_val gw_none (ov_move rfl) rfl ?_
        refine rl_val gw_none (ov_assign rfl) rfl ?_
        refine rl_nil ?_
        refine at_then ?_
        refine ct_ret ?_
        refine at_ret1 Try.results28 (ro_tmp rfl) (fun w1 hp => ?_)
        have hln : (putL xs n).length = (xs ++ [(0 : Int)]).length := by rw [hnew]; simp; omega
        exact ⟨(_, capq1, padq1), slSameI hsq1 hln, by rw [hln], (Hp.sub (Hp.pull hp 1 rfl) (List.sublist_append_left [_] _))⟩
    ·
      have hk0 : k = 0 := by simp at g2; omega
      refine rl_skip (gw_not rfl rfl g2) rfl ?_
      refine rl_skip (gw_not rfl rfl g2) rfl ?_
      refine rl_skip (gw_not rfl rfl g2) rfl ?_
      refine rl_skip (gw_not rfl rfl g2) rfl ?_
      refine rl_skip (gw_not rfl rfl g2) rfl ?_
      refine rl_skip (gw_not rfl rfl g2) rfl ?_
      refine rl_skip (gw_not rfl rfl g2) rfl ?_
      refine rl_val gw_none (ov_pick_f rfl g2 rfl) rfl ?_
      refine rl_nil ?_
      refine at_then ?_
      refine ct_false rfl rfl ?_
      refine ct_skip ?_
      refine at_then ?_
      refine ct_seq ?_
      refine ct_reg ?_
      refine rl_val gw_none (ov_move rfl) rfl ?_
      refine rl_bslice Try.underlying26 ze3 sz3 rfl rfl rfl rfl rfl rfl (fun N2 => ?_)
      refine rl_appT (ints) (ints_append) [_] (acc := xs) Try.underlying26 ze3 sz3 rfl rfl by3 rfl rfl rfl hsl ([0]) rfl (fun w1 hp => hp.sr1 0 rfl rfl (by decide)) (ints_one _) (by unfold maxLen; omega) (by omega) rfl (fun boq2 capq2 padq2 hsq2 => ?_)
      have hnew : putL xs n = xs.take k ++ [n] ++ xs.drop k := put_right hr hk hall (by rcases hfin with hfin | ⟨y, hy, hyn⟩; exact .inl hfin; exact .inr ⟨y, hy, by first | omega | (have := hall (k - 1) y (by omega) hy; omega) | (rw [hx] at hy; obtain rfl := Option.some.inj hy; first | omega | (simp at *; omega))⟩)
      obtain ⟨bq2, rfl⟩ := slSomeG hsq2 (by simp)
      have hol : (xs ++ [(0 : Int)]).length = xs.length + 1 := by simp
      have hleq2 := hsq2.le
      have hmxq2 := hsq2.max
      refine rl_val gw_none (ov_assign rfl) rfl ?_
      refine rl_nil ?_
      refine at_then ?_
      refine ct_seq ?_
      refine ct_dr 7 (by kernel_rfl) (by kernel_rfl) ?_
      refine ql_val gw_none (ov_move rfl) rfl ?_
      refine ql_val gw_none (ov_move rfl) rfl ?_
      refine ql_val gw_none (ov_add rfl rfl (by omega)) rfl ?_
      refine ql_val gw_none (ov_subl Try.underlying26 sz3 rfl rfl (k + 1) (by omega) (by omega)) rfl ?_
      refine ql_val gw_none (ov_move rfl) rfl ?_
      refine ql_val gw_none (ov_move rfl) rfl ?_
      refine ql_val gw_none (ov_subl Try.underlying26 sz3 rfl rfl (k) (by omega) (by omega)) rfl ?_
      refine ql_nil ?_
      refine rl_copy [_] Try.underlying26 sz3 rfl rfl rfl rfl (fun w1 hp => (SR.drop (hp.slsr 1 rfl hsq2) (lo := k) (by omega) (by omega)).cast rfl (show (ints (xs ++ [(0 : Int)])).drop (k * 1) = ints ((xs ++ [(0 : Int)]).drop k) by rw [Nat.mul_one]; simp [ints])) (xs.length - k) (by show _ = min _ _; omega) (by omega) (by rw [List.length_append, ints_length, hol]; omega) (ints_one _) rfl ?_
      refine rl_mem (fun _ hq => hq.cong (congrArg (fun x => _ :: (_, _, x) :: _) (copyFoldI (by omega) _))) ?_
      refine rl_nil ?_
      refine at_then ?_
      refine ct_seq ?_
      refine ct_reg ?_
      refine rl_val gw_none (ov_move rfl) rfl ?_
      refine rl_val gw_none (ov_move rfl) rfl ?_
      refine rl_val gw_none (ov_move rfl) rfl ?_
      first | refine rl_val gw_none (ov_ix Try.underlying26 sz3 rfl rfl _ rfl (by omega)) rfl ?_ | refine rl_val gw_none (ov_ix Try.underlying26 sz3 rfl rfl (k - 1) (by omega) (by omega)) rfl ?_ | refine rl_val gw_none (ov_ix Try.underlying26 sz3 rfl rfl (k) (by omega) (by omega)) rfl ?_
      refine rl_store [_] sz3 rfl rfl rfl rfl rfl (by rw [List.length_append, ints_length]; simp; omega) ?_
      refine rl_mem (fun _ hq => hq.cong (congrArg (fun x => _ :: (_, _, x) :: _) (insPutI hk hnew _))) ?_
      refine rl_nil ?_
      refine at_then ?_
      refine ct_seq ?_
      refine ct_reg ?_
      refine rl_val gw_none (ov_move rfl) rfl ?_
      refine rl_val gw_none (ov_assign rfl) rfl ?_
      refine rl_nil ?_
      refine at_then ?_
      refine ct_ret ?_
      refine at_ret1 Try.results28 (ro_tmp rfl) (fun w1 hp => ?_)
      have hln : (putL xs n).length = (xs ++ [(0 : Int)]).length := by rw [hnew]; simp; omega
      exact ⟨(_, capq2, padq2), slSameI hsq2 hln, by rw [hln], (Hp.sub (Hp.pull hp 1 rfl) (List.sublist_append_left [_] _))⟩

theorem l1Put_c (xs : List Int) (n : Int) (bo : Option Nat) (cap : Nat) (pad : List Value) (D : List Nat) (w : World) (h0 : Hp ⟨w, D⟩ [(bo, 3, ints xs ++ pad)] w) (hsl : Sl 1 bo xs.length cap (ints xs) pad) (hr : risL xs) (hl : xs.length ≤ 1000) : Calls Try.prog 26 ([sv bo xs.length cap, .int .i64 n]).toArray w (fun e w' => ∃ i : Option Nat × Nat × List Value, Sl 1 i.1 (putL xs n).length i.2.1 (ints (putL xs n)) i.2.2 ∧ e = .returned (sv i.1 (putL xs n).length i.2.1) ∧ Hp ⟨w, D⟩ [(i.1, 3, ints (putL xs n) ++ i.2.2)] w') := by
  have hcl := hsl.le
  have hmx := hsl.max
  have hmm : maxLen = 9223372036854775807 := rfl
  refine calls_ctds h0 Try.func26 Try.ntmps26 rfl rfl ?_
  refine ct_seq ?_
  refine ct_reg ?_
  refine rl_val gw_none (ov_assign rfl) rfl ?_
  refine rl_nil ?_
  refine at_then ?_
  refine ct_seq ?_
  refine ct_reg ?_
  refine rl_val gw_none (ov_assign rfl) rfl ?_
  refine rl_nil ?_
  refine at_then ?_
  refine ct_cutS (ι := Nat) (fun k => [(5, .int .i64 k)]) [(0, _), (1, _), (4, _)] _ (fun k => k ≤ xs.length ∧ (∀ j x, j < k → xs[j]? = some x → x < n) ∧ (k = xs.length ∨ ∃ x, xs[k]? = some x ∧ n ≤ x)) (Sub.cons rfl (Sub.cons rfl (Sub.cons rfl Sub.nil))) (fun _ hq => hq) ?_ (fun k hi => ?_)
  ·
    refine ct_block ?_
    refine ct_loopR (ι := Nat) (fun k => [(5, .int .i64 k)]) [(0, _), (1, _), (4, _)] (fun _ => _) (fun k => k ≤ xs.length ∧ ∀ j x, j < k → xs[j]? = some x → x < n) (fun k => xs.length - k) (0) (Sub.cons rfl (Sub.cons rfl (Sub.cons rfl Sub.nil))) (fun _ hq => hq) (by (repeat' (first | exact Sub.nil | refine Sub.cons ?_ ?_)); all_goals (first | rfl | exact lkInt rfl (by omega))) ⟨Nat.zero_le _, fun j x hj => absurd hj (Nat.not_lt_zero j)⟩ (fun k hi => ?_)
    obtain ⟨hk, hall⟩ := hi
    refine ct_seq ?_
    refine ct_seq ?_
    refine ct_reg ?_
    refine rl_val gw_none (ov_move rfl) rfl ?_
    refine rl_val gw_none (ov_move rfl) rfl ?_
    refine rl_val gw_none (ov_len Try.underlying26 rfl) rfl ?_
    refine rl_val gw_none (ov_lss rfl rfl) rfl ?_
    refine rl_val gw_none (ov_move rfl) rfl ?_
    refine rl_split (t := 10) rfl (fun g1 => ?_) (fun g1 => ?_)
    ·
      have hk2 : k < xs.length := by first | omega | (simpa using g1)
      obtain ⟨bz, rfl⟩ := slSomeG hsl (by omega)
      have hx := getLt hk2
      generalize xs[k] = x at *
      refine rl_val (gw_some rfl rfl g1) (ov_move rfl) rfl ?_
      refine rl_val (gw_some rfl rfl g1) (ov_move rfl) rfl ?_
      first | refine rl_val (gw_some rfl rfl g1) (ov_ix Try.underlying26 sz3 rfl rfl _ rfl (by omega)) rfl ?_ | refine rl_val (gw_some rfl rfl g1) (ov_ix Try.underlying26 sz3 rfl rfl (k) (by omega) (by omega)) rfl ?_
      refine rl_val (gw_some rfl rfl g1) (ov_load 0 sc3 rfl rfl (intsAtP hx pad)) rfl ?_
      refine rl_val (gw_some rfl rfl g1) (ov_move rfl) rfl ?_
      refine rl_val (gw_some rfl rfl g1) (ov_lss rfl rfl) rfl ?_
      refine rl_val gw_none (ov_pick_t rfl g1 rfl) rfl ?_
      refine rl_nil ?_
      refine at_then ?_
      first | refine ct_dec rfl (fun h1 => ?_) (fun h1 => ?_) | refine ct_ndec rfl (fun h1 => ?_) (fun h1 => ?_) | refine ct_eq rfl (fun h1 => ?_) (fun h1 => ?_) | refine ct_ne rfl (fun h1 => ?_) (fun h1 => ?_) | refine ct_not rfl (fun h1 => ?_) (fun h1 => ?_) | refine ct_cond rfl (fun h1 => ?_) (fun h1 => ?_)
      ·
        refine ct_skip ?_
        refine at_then ?_
        refine ct_block ?_
        refine ct_reg ?_
        refine rl_val gw_none (ov_move rfl) rfl ?_
        refine rl_val gw_none (ov_add rfl rfl (by omega)) rfl ?_
        refine rl_val gw_none (ov_assign rfl) rfl ?_
        refine rl_nil ?_
        refine at_block ?_
        exact at_backR (k + 1) ⟨by omega, fun j y hj hy => by by_cases hjk : j = k; exact (by subst hjk; rw [hx] at hy; obtain rfl := Option.some.inj hy; omega); exact hall j y (by omega) hy⟩ (by first | exact True.intro | omega | (dsimp only; omega) | (dsimp only at *; omega)) (by (repeat' (first | exact Sub.nil | refine Sub.cons ?_ ?_)); all_goals (first | rfl | exact lkInt rfl (by omega))) (Sub.cons rfl (Sub.cons rfl (Sub.cons rfl Sub.nil))) (fun _ hq => hq)
      ·
        refine ct_exit ?_
        refine at_then_exit ?_
        refine at_then_exit ?_
        refine at_block_hit ?_
        exact at_handR k ⟨hk, hall, by first | (left; omega) | (right; exact ⟨x, hx, by omega⟩)⟩ (by (repeat' (first | exact Sub.nil | refine Sub.cons ?_ ?_)); all_goals (first | rfl | exact lkInt rfl (by omega))) (Sub.cons rfl (Sub.cons rfl (Sub.cons rfl Sub.nil))) (fun _ hq => hq)
    ·
      have hke : k = xs.length := by simp at g1; omega
      refine rl_skip (gw_not rfl rfl g1) rfl ?_
      refine rl_skip (gw_not rfl rfl g1) rfl ?_
      refine rl_skip (gw_not rfl rfl g1) rfl ?_
      refine rl_skip (gw_not rfl rfl g1) rfl ?_
      refine rl_skip (gw_not rfl rfl g1) rfl ?_
      refine rl_skip (gw_not rfl rfl g1) rfl ?_
      refine rl_val gw_none (ov_pick_f rfl g1 rfl) rfl ?_
      refine rl_nil ?_
      refine at_then ?_
      refine ct_false rfl rfl ?_
      refine ct_exit ?_
      refine at_then_exit ?_
      refine at_then_exit ?_
      refine at_block_hit ?_
      exact at_handR k ⟨hk, hall, by first | (left; omega) | (right; exact ⟨x, hx, by omega⟩)⟩ (by (repeat' (first | exact Sub.nil | refine Sub.cons ?_ ?_)); all_goals (first | rfl | exact lkInt rfl (by omega))) (Sub.cons rfl (Sub.cons rfl (Sub.cons rfl Sub.nil))) (fun _ hq => hq)
  ·
    obtain ⟨hk, hall, hfin⟩ := hi
    refine ct_seq ?_
    refine ct_seq ?_
    refine ct_reg ?_
    refine rl_val gw_none (ov_move rfl) rfl ?_
    refine rl_val gw_none (ov_move rfl) rfl ?_
    refine rl_val gw_none (ov_len Try.underlying26 rfl) rfl ?_
    refine rl_val gw_none (ov_lss rfl rfl) rfl ?_
    refine rl_val gw_none (ov_move rfl) rfl ?_
    refine rl_split (t := 24) rfl (fun g2 => ?_) (fun g2 => ?_)
    ·
      have hk2 : k < xs.length := by first | omega | (simpa using g2)
      obtain ⟨bz, rfl⟩ := slSomeG hsl (by omega)
      have hx := getLt hk2
      generalize xs[k] = x at *
      refine rl_val (gw_some rfl rfl g2) (ov_move rfl) rfl ?_
      refine rl_val (gw_some rfl rfl g2) (ov_move rfl) rfl ?_
      first | refine rl_val (gw_some rfl rfl g2) (ov_ix Try.underlying26 sz3 rfl rfl _ rfl (by omega)) rfl ?_ | refine rl_val (gw_some rfl rfl g2) (ov_ix Try.underlying26 sz3 rfl rfl (k) (by omega) (by omega)) rfl ?_
      refine rl_val (gw_some rfl rfl g2) (ov_load 0 sc3 rfl rfl (intsAtP hx pad)) rfl ?_
      refine rl_val (gw_some rfl rfl g2) (ov_move rfl) rfl ?_
      refine rl_val (gw_some rfl rfl g2) (ov_eql rfl rfl) rfl ?_
      refine rl_val gw_none (ov_pick_t rfl g2 rfl) rfl ?_
      refine rl_nil ?_
      refine at_then ?_
      first | refine ct_dec rfl (fun h2 => ?_) (fun h2 => ?_) | refine ct_ndec rfl (fun h2 => ?_) (fun h2 => ?_) | refine ct_eq rfl (fun h2 => ?_) (fun h2 => ?_) | refine ct_ne rfl (fun h2 => ?_) (fun h2 => ?_) | refine ct_not rfl (fun h2 => ?_) (fun h2 => ?_) | refine ct_cond rfl (fun h2 => ?_) (fun h2 => ?_)
      ·
        refine ct_seq ?_
        refine ct_reg ?_
        refine rl_val gw_none (ov_move rfl) rfl ?_
        refine rl_val gw_none (ov_assign rfl) rfl ?_
        refine rl_nil ?_
        refine at_then ?_
        refine ct_ret ?_
        refine at_then_ret ?_
        refine at_ret1 Try.results26 (ro_tmp rfl) (fun w1 hp => ?_)
        rw [show putL xs n = xs from putL_in (k := k) (by rw [hx]; congr 1)]
        exact ⟨(_, cap, pad), hsl, rfl, (Hp.sub (Hp.pull hp 0 rfl) (List.sublist_append_left [_] _))⟩
      ·
        refine ct_skip ?_
        refine at_then ?_
        refine ct_seq ?_
        refine ct_fl 11 [1, 2, 3, 5, 8, 9, 10, 0, 4, 6, 7, 11, 12] ⟨7, [8, 10], [8, 10], [7, 9], [], []⟩ (fun q => if q = 7 then (⟨3, [], fun N => sv (some N) 0 0⟩ : Soft) else if q = 9 then (⟨3, [.int .i64 n], fun N => sv (some N) 1 1⟩ : Soft) else ⟨0, [], fun _ => undef⟩) (by kernel_rfl) (by kernel_rfl) ?_
        refine qf_step rfl ?_
        refine qg_val rfl gw_none (fun _ => (ov_move rfl)) rfl ?_
        refine qf_step rfl ?_
        refine qg_val rfl gw_none (fun _ => (ov_move rfl)) rfl ?_
        refine qf_step rfl ?_
        refine qg_val rfl gw_none (fun _ => (ov_subh Try.underlying26 sz3 rfl rfl (k) (by omega) (by omega))) rfl ?_
        refine qf_step rfl ?_
        refine qg_val rfl gw_none (fun _ => (ov_move rfl)) rfl ?_
        refine qf_step rfl ?_
        refine qg_val rfl gw_none (fun _ => (ov_move rfl)) rfl ?_
        refine qf_step rfl ?_
        refine qg_val rfl gw_none (fun _ => (ov_move rfl)) rfl ?_
        refine qf_step rfl ?_
        refine qg_val rfl gw_none (fun _ => (ov_subl Try.underlying26 sz3 rfl rfl (k) (by omega) (by omega))) rfl ?_
        refine qf_mark ⟨⟨0, rfl, soft_bslice rfl rfl Try.underlying26 ze3 sz3 rfl rfl rfl rfl rfl rfl rfl⟩, ⟨⟨2, rfl, soft_bslice rfl rfl Try.underlying26 ze3 sz3 rfl rfl rfl rfl rfl rfl rfl⟩, True.intro⟩⟩ ?_
        refine qg_soft rfl rfl rfl (fun N1 => ?_)
        refine qf_step rfl ?_
        refine qg_appT (ints) (ints_append) [] (bo := some N1) (acc := []) rfl rfl rfl Try.underlying26 ze3 sz3 rfl rfl by3 rfl rfl rfl (Sl.lit rfl (by first | decide | (unfold maxLen; simp; done) | (unfold maxLen; simp; omega))) (xs.take k) (fun _ _ _ => True.intro) (by rw [List.length_take]; omega) (fun w1 hp => (SR.take (hp.slsr 1 rfl hsl) (hi := k) (by omega) (by omega)).cast rfl (show (ints xs).take (k * 1) = ints (xs.take k) by rw [Nat.mul_one]; simp [ints])) (ints_one _) (by unfold maxLen; first | omega | (simp; done) | (simp; omega)) (by first | omega | (simp; done) | (simp; omega)) rfl (fun boq1 capq1 padq1 hsq1 => ?_)
        refine qf_step rfl ?_
        refine qg_soft rfl rfl rfl (fun N2 => ?_)
        refine qf_step rfl ?_
        refine qg_appT (ints) (ints_append) [_] (acc := [] ++ xs.take k) rfl rfl rfl Try.underlying26 ze3 sz3 rfl rfl by3 rfl rfl rfl hsq1 ([n]) (fun _ _ _ => True.intro) rfl (fun w1 hp => hp.sr1 0 rfl rfl (by decide)) (ints_one _) (by unfold maxLen; first | omega | (simp; done) | (simp; omega)) (by first | omega | (simp; done) | (simp; omega)) rfl (fun boq2 capq2 padq2 hsq2 => ?_)
        refine qf_nil ?_
        refine rl_appT (ints) (ints_append) [_] (acc := [] ++ xs.take k ++ [n]) Try.underlying26 ze3 sz3 rfl rfl by3 rfl rfl rfl hsq2 (xs.drop k) (by rw [List.length_drop]) (fun w1 hp => (SR.drop (hp.slsr 2 rfl hsl) (lo := k) (by omega) (by omega)).cast rfl (show (ints xs).drop (k * 1) = ints (xs.drop k) by rw [Nat.mul_one]; simp [ints])) (ints_one _) (by unfold maxLen; first | omega | (simp; done) | (simp; omega)) (by first | omega | (simp; done) | (simp; omega)) rfl (fun boq3 capq3 padq3 hsq3 => ?_)
        refine rl_val gw_none (ov_assign rfl) rfl ?_
        refine rl_nil ?_
        refine at_then ?_
        refine ct_ret ?_
        refine at_ret1 Try.results26 (ro_tmp rfl) (fun w1 hp => ?_)
        have hnew : putL xs n = [] ++ xs.take k ++ [n] ++ xs.drop k := by rw [List.nil_append]; exact put_left hr hk hall (by rcases hfin with hfin | ⟨y, hy, hyn⟩; exact .inl hfin; exact .inr ⟨y, hy, by first | omega | (have := (List.getElem?_eq_some_iff.1 hy).1; omega) | (rw [hx] at hy; obtain rfl := Option.some.inj hy; first | omega | (simp at *; omega))⟩)
        rw [hnew]
        exact ⟨(boq3, capq3, padq3), hsq3, rfl, (Hp.sub (Hp.pull hp 1 rfl) (List.sublist_append_left [_] _))⟩
    ·
      have hke : k = xs.length := by simp at g2; omega
      refine rl_skip (gw_not rfl rfl g2) rfl ?_
      refine rl_skip (gw_not rfl rfl g2) rfl ?_
      refine rl_skip (gw_not rfl rfl g2) rfl ?_
      refine rl_skip (gw_not rfl rfl g2) rfl ?_
      refine rl_skip (gw_not rfl rfl g2) rfl ?_
      refine rl_skip (gw_not rfl rfl g2) rfl ?_
      refine rl_val gw_none (ov_pick_f rfl g2 rfl) rfl ?_
      refine rl_nil ?_
      refine at_then ?_
      refine ct_false rfl rfl ?_
      refine ct_skip ?_
      refine at_then ?_
      refine ct_seq ?_
      refine ct_fl 11 [1, 2, 3, 5, 8, 9, 10, 0, 4, 6, 7, 11, 12] ⟨7, [8, 10], [8, 10], [7, 9], [], []⟩ (fun q => if q = 7 then (⟨3, [], fun N => sv (some N) 0 0⟩ : Soft) else if q = 9 then (⟨3, [.int .i64 n], fun N => sv (some N) 1 1⟩ : Soft) else ⟨0, [], fun _ => undef⟩) (by kernel_rfl) (by kernel_rfl) ?_
      refine qf_step rfl ?_
      refine qg_val rfl gw_none (fun _ => (ov_move rfl)) rfl ?_
      refine qf_step rfl ?_
      refine qg_val rfl gw_none (fun _ => (ov_move rfl)) rfl ?_
      refine qf_step rfl ?_
      refine qg_val rfl gw_none (fun _ => (ov_subh Try.underlying26 sz3 rfl rfl (k) (by omega) (by omega))) rfl ?_
      refine qf_step rfl ?_
      refine qg_val rfl gw_none (fun _ => (ov_move rfl)) rfl ?_
      refine qf_step rfl ?_
      refine qg_val rfl gw_none (fun _ => (ov_move rfl)) rfl ?_
      refine qf_step rfl ?_
      refine qg_val rfl gw_none (fun _ => (ov_move rfl)) rfl ?_
      refine qf_step rfl ?_
      refine qg_val rfl gw_none (fun _ => (ov_subl Try.underlying26 sz3 rfl rfl (k) (by omega) (by omega))) rfl ?_
      refine qf_mark ⟨⟨0, rfl, soft_bslice rfl rfl Try.underlying26 ze3 sz3 rfl rfl rfl rfl rfl rfl rfl⟩, ⟨⟨2, rfl, soft_bslice rfl rfl Try.underlying26 ze3 sz3 rfl rfl rfl rfl rfl rfl rfl⟩, True.intro⟩⟩ ?_
      refine qg_soft rfl rfl rfl (fun N3 => ?_)
      refine qf_step rfl ?_
      refine qg_appT (ints) (ints_append) [] (bo := some N3) (acc := []) rfl rfl rfl Try.underlying26 ze3 sz3 rfl rfl by3 rfl rfl rfl (Sl.lit rfl (by first | decide | (unfold maxLen; simp; done) | (unfold maxLen; simp; omega))) (xs.take k) (fun _ _ _ => True.intro) (by rw [List.length_take]; omega) (fun w1 hp => (SR.take (hp.slsr 1 rfl hsl) (hi := k) (by omega) (by omega)).cast rfl (show (ints xs).take (k * 1) = ints (xs.take k) by rw [Nat.mul_one]; simp [ints])) (ints_one _) (by unfold maxLen; first | omega | (simp; done) | (simp; omega)) (by first | omega | (simp; done) | (simp; omega)) rfl (fun boq4 capq4 padq4 hsq4 => ?_)
      refine qf_step rfl ?_
      refine qg_soft rfl rfl rfl (fun N4 => ?_)
      refine qf_step rfl ?_
      refine qg_appT (ints) (ints_append) [_] (acc := [] ++ xs.take k) rfl rfl rfl Try.underlying26 ze3 sz3 rfl rfl by3 rfl rfl rfl hsq4 ([n]) (fun _ _ _ => True.intro) rfl (fun w1 hp => hp.sr1 0 rfl rfl (by decide)) (ints_one _) (by unfold maxLen; first | omega | (simp; done) | (simp; omega)) (by first | omega | (simp; done) | (simp; omega)) rfl (fun boq5 capq5 padq5 hsq5 => ?_)
      refine qf_nil ?_
      refine rl_appT (ints) (ints_append) [_] (acc := [] ++ xs.take k ++ [n]) Try.underlying26 ze3 sz3 rfl rfl by3 rfl rfl rfl hsq5 (xs.drop k) (by rw [List.length_drop]) (fun w1 hp => (SR.drop (hp.slsr 2 rfl hsl) (lo := k) (by omega) (by omega)).cast rfl (show (ints xs).drop (k * 1) = ints (xs.drop k) by rw [Nat.mul_one]; simp [ints])) (ints_one _) (by unfold maxLen; first | omega | (simp; done) | (simp; omega)) (by first | omega | (simp; done) | (simp; omega)) rfl (fun boq6 capq6 padq6 hsq6 => ?_)
      refine rl_val gw_none (ov_assign rfl) rfl ?_
      refine rl_nil ?_
      refine at_then ?_
      refine ct_ret ?_
      refine at_ret1 Try.results26 (ro_tmp rfl) (fun w1 hp => ?_)
      have hnew : putL xs n = [] ++ xs.take k ++ [n] ++ xs.drop k := by rw [List.nil_append]; exact put_left hr hk hall (by rcases hfin with hfin | ⟨y, hy, hyn⟩; exact .inl hfin; exact .inr ⟨y, hy, by first | omega | (have := (List.getElem?_eq_some_iff.1 hy).1; omega) | (rw [hx] at hy; obtain rfl := Option.some.inj hy; first | omega | (simp at *; omega))⟩)
      rw [hnew]
      exact ⟨(boq6, capq6, padq6), hsq6, rfl, (Hp.sub (Hp.pull hp 1 rfl) (List.sublist_append_left [_] _))⟩
end Go.Proofs.Ytjhlhkglpecdbaa
