import Derived.Test.YtgnnlgmeagipjaaFa
import Derived.Test.YtgnnlgmeagipjaaCa
import Derived.KernelRfl
set_option linter.unusedVariables false
set_option linter.unusedSimpArgs false
namespace Go.Proofs.Ytgnnlgmeagipjaa
open Go Go.RowKit K
theorem next_c (bc : Nat) (a : Option Addr) (lc capc : Nat) (at_ s : Int) (D : List Nat) (w : World) (h0 : Hp ⟨w, D⟩ [(some bc, 83, [.slice a lc capc, .int .i64 at_, .int .u64 s])] w) (hcd : CodeOk w D a lc) (hat : 0 ≤ at_ ∧ at_ ≤ 4000000000) : Calls Try.prog 70 ([.pointer (some ⟨bc, 0, none⟩)]).toArray w (fun e w' => ∃ j : (Int) × Int × Int, ((0 ≤ j.1 ∧ j.1 ≤ 255) ∧ at_ ≤ j.2.1 ∧ j.2.1 ≤ at_ + 1) ∧ e = .returned (.int .i64 j.1) ∧ Hp ⟨w, D⟩ [(some bc, 83, [.slice a lc capc, .int .i64 j.2.1, .int .u64 j.2.2])] w') := by
  have hlc := hcd.1
  refine calls_ctds h0 Try.func70 Try.ntmps70 rfl rfl ?_
  refine ct_seq ?_
  refine ct_reg ?_
  refine rl_val gw_none (ov_assign rfl) rfl ?_
  refine rl_nil ?_
  refine at_then ?_
  refine ct_seq ?_
  refine ct_reg ?_
  refine rl_val gw_none (ov_assign rfl) rfl ?_
  refine rl_nil ?_
  refine at_then ?_
  refine ct_seq ?_
  refine ct_seq ?_
  refine ct_dr 10 (by kernel_rfl) (by kernel_rfl) ?_
  refine ql_val gw_none (ov_move rfl) rfl ?_
  refine ql_val gw_none (ov_nilc rfl) rfl ?_
  refine ql_val gw_none (ov_field fo83_1 rfl) rfl ?_
  first | refine ql_val gw_none (ov_load 0 sc3 rfl rfl rfl) rfl ?_ | refine ql_val gw_none (ov_load 0 sc3 rfl rfl (by assumption)) rfl ?_
  refine ql_val gw_none (ov_move rfl) rfl ?_
  refine ql_val gw_none (ov_nilc rfl) rfl ?_
  refine ql_val gw_none (ov_field fo83_0 rfl) rfl ?_
  first | refine ql_val gw_none (ov_load 0 sc37 rfl rfl rfl) rfl ?_ | refine ql_val gw_none (ov_load 0 sc37 rfl rfl (by assumption)) rfl ?_
  refine ql_val gw_none (ov_len Try.underlying37 rfl) rfl ?_
  refine ql_val gw_none (ov_lss rfl rfl) rfl ?_
  refine ql_nil ?_
  refine rl_nil ?_
  refine at_then ?_
  first | refine ct_dec rfl (fun h1 => ?_) (fun h1 => ?_) | refine ct_ndec rfl (fun h1 => ?_) (fun h1 => ?_) | refine ct_eq rfl (fun h1 => ?_) (fun h1 => ?_) | refine ct_ne rfl (fun h1 => ?_) (fun h1 => ?_) | refine ct_not rfl (fun h1 => ?_) (fun h1 => ?_) | refine ct_cond rfl (fun h1 => ?_) (fun h1 => ?_)
  ·
    obtain ⟨b, o, x, rfl, hc, hx, hbd⟩ := hcd.2 at_.toNat (by omega)
    have hwx := wrap8 hx
    refine ct_dr 12 (by kernel_rfl) (by kernel_rfl) ?_
    refine ql_val gw_none (ov_move rfl) rfl ?_
    refine ql_val gw_none (ov_nilc rfl) rfl ?_
    refine ql_val gw_none (ov_field fo83_0 rfl) rfl ?_
    first | refine ql_val gw_none (ov_load 0 sc37 rfl rfl rfl) rfl ?_ | refine ql_val gw_none (ov_load 0 sc37 rfl rfl (by assumption)) rfl ?_
    refine ql_val gw_none (ov_move rfl) rfl ?_
    refine ql_val gw_none (ov_nilc rfl) rfl ?_
    refine ql_val gw_none (ov_field fo83_1 rfl) rfl ?_
    first | refine ql_val gw_none (ov_load 0 sc3 rfl rfl rfl) rfl ?_ | refine ql_val gw_none (ov_load 0 sc3 rfl rfl (by assumption)) rfl ?_
    first | refine ql_val gw_none (ov_ix Try.underlying37 sz5 rfl rfl _ rfl (by omega)) rfl ?_ | refine ql_val gw_none (ov_ix Try.underlying37 sz5 rfl rfl (at_.toNat) (by omega) (by omega)) rfl ?_
    refine ql_val gw_none (ov_loadwd sc5 rfl hc hbd) rfl ?_
    refine ql_val gw_none (ov_convint Try.underlying5 Try.underlying3 rfl) rfl ?_
    refine ql_val gw_none (ov_assign rfl) rfl ?_
    refine ql_nil ?_
    refine rl_nil ?_
    refine at_then ?_
    refine ct_seq ?_
    refine ct_reg ?_
    refine rl_val gw_none (ov_move rfl) rfl ?_
    refine rl_val gw_none (ov_nilc rfl) rfl ?_
    refine rl_val gw_none (ov_field fo83_1 rfl) rfl ?_
    first | refine rl_val gw_none (ov_load 0 sc3 rfl rfl rfl) rfl ?_ | refine rl_val gw_none (ov_load 0 sc3 rfl rfl (by assumption)) rfl ?_
    refine rl_val gw_none (ov_add rfl rfl (by omega)) rfl ?_
    refine rl_val gw_none (ov_nilc rfl) rfl ?_
    refine rl_val gw_none (ov_field fo83_1 rfl) rfl ?_
    refine rl_store [] sz3 rfl rfl rfl rfl rfl (Nat.le_of_ble_eq_true rfl) ?_
    refine rl_nil ?_
    refine at_then ?_
    refine ct_seq ?_
    refine ct_reg ?_
    refine rl_val gw_none (ov_move rfl) rfl ?_
    refine rl_val gw_none (ov_move rfl) rfl ?_
    refine rl_val gw_none (ov_nilc rfl) rfl ?_
    refine rl_val gw_none (ov_field fo83_2 rfl) rfl ?_
    first | refine rl_val gw_none (ov_load 0 sc81 rfl rfl rfl) rfl ?_ | refine rl_val gw_none (ov_load 0 sc81 rfl rfl (by assumption)) rfl ?_
    refine rl_val gw_none (ov_mulk rfl rfl) rfl ?_
    refine rl_val gw_none (ov_move rfl) rfl ?_
    refine rl_val gw_none (ov_convint Try.underlying3 Try.underlying81 rfl) rfl ?_
    refine rl_val gw_none (ov_addk rfl rfl) rfl ?_
    refine rl_val gw_none (ov_addk rfl rfl) rfl ?_
    refine rl_val gw_none (ov_nilc rfl) rfl ?_
    refine rl_val gw_none (ov_field fo83_2 rfl) rfl ?_
    refine rl_store [] sz81 rfl rfl rfl rfl rfl (Nat.le_of_ble_eq_true rfl) ?_
    refine rl_nil ?_
    refine at_then ?_
    refine ct_seq ?_
    refine ct_seq ?_
    refine ct_dr 10 (by kernel_rfl) (by kernel_rfl) ?_
    refine ql_val gw_none (ov_move rfl) rfl ?_
    refine ql_val gw_none (ov_nilc rfl) rfl ?_
    refine ql_val gw_none (ov_field fo83_1 rfl) rfl ?_
    first | refine ql_val gw_none (ov_load 0 sc3 rfl rfl rfl) rfl ?_ | refine ql_val gw_none (ov_load 0 sc3 rfl rfl (by assumption)) rfl ?_
    refine ql_val gw_none (ov_move rfl) rfl ?_
    refine ql_val gw_none (ov_nilc rfl) rfl ?_
    refine ql_val gw_none (ov_field fo83_0 rfl) rfl ?_
    first | refine ql_val gw_none (ov_load 0 sc37 rfl rfl rfl) rfl ?_ | refine ql_val gw_none (ov_load 0 sc37 rfl rfl (by assumption)) rfl ?_
    refine ql_val gw_none (ov_len Try.underlying37 rfl) rfl ?_
    refine ql_val gw_none (ov_leq rfl rfl) rfl ?_
    refine ql_nil ?_
    refine rl_nil ?_
    refine at_then ?_
    first | refine ct_dec rfl (fun h2 => ?_) (fun h2 => ?_) | refine ct_ndec rfl (fun h2 => ?_) (fun h2 => ?_) | refine ct_eq rfl (fun h2 => ?_) (fun h2 => ?_) | refine ct_ne rfl (fun h2 => ?_) (fun h2 => ?_) | refine ct_not rfl (fun h2 => ?_) (fun h2 => ?_) | refine ct_cond rfl (fun h2 => ?_) (fun h2 => ?_)
    ·
      refine ct_seq ?_
      refine ct_reg ?_
      refine rl_val gw_none (ov_move rfl) rfl ?_
      refine rl_val gw_none (ov_assign rfl) rfl ?_
      refine rl_nil ?_
      refine at_then ?_
      refine ct_ret ?_
      refine at_then_ret ?_
      refine at_ret1 Try.results70 (ro_tmp rfl) (fun w1 hp => ?_)
      refine ⟨(IntKind.i64.wrap x, _, _), ⟨?_, ?_, ?_⟩, rfl, (Hp.sub (Hp.pull hp 0 rfl) (List.sublist_append_left [_] _))⟩
      · dsimp only; rw [hwx]; exact hx
      · dsimp only; omega
      · dsimp only; omega
    ·
      refine ct_skip ?_
      refine at_then ?_
      refine ct_seq ?_
      refine ct_reg ?_
      refine rl_val gw_none (ov_move rfl) rfl ?_
      refine rl_val gw_none (ov_nilc rfl) rfl ?_
      refine rl_val gw_none (ov_field fo83_2 rfl) rfl ?_
      first | refine rl_val gw_none (ov_load 0 sc81 rfl rfl rfl) rfl ?_ | refine rl_val gw_none (ov_load 0 sc81 rfl rfl (by assumption)) rfl ?_
      refine rl_val gw_none (ov_shr40 rfl) rfl ?_
      refine rl_val gw_none (ov_and255 rfl) rfl ?_
      refine rl_val gw_none (ov_convint Try.underlying81 Try.underlying3 rfl) rfl ?_
      refine rl_val gw_none (ov_assign rfl) rfl ?_
      refine rl_nil ?_
      refine at_then ?_
      refine ct_ret ?_
      refine at_ret1 Try.results70 (ro_tmp rfl) (fun w1 hp => ?_)
      refine ⟨(IntKind.i64.wrap (low8 _), _, _), ⟨?_, ?_, ?_⟩, rfl, (Hp.sub (Hp.pull hp 0 rfl) (List.sublist_append_left [_] _))⟩
      · dsimp only; rw [wrap8 (low8_bd _)]; exact low8_bd _
      · dsimp only; omega
      · dsimp only; omega
  ·
    refine ct_skip ?_
    refine at_then ?_
    refine ct_seq ?_
    refine ct_reg ?_
    refine rl_val gw_none (ov_move rfl) rfl ?_
    refine rl_val gw_none (ov_nilc rfl) rfl ?_
    refine rl_val gw_none (ov_field fo83_1 rfl) rfl ?_
    first | refine rl_val gw_none (ov_load 0 sc3 rfl rfl rfl) rfl ?_ | refine rl_val gw_none (ov_load 0 sc3 rfl rfl (by assumption)) rfl ?_
    refine rl_val gw_none (ov_add rfl rfl (by omega)) rfl ?_
    refine rl_val gw_none (ov_nilc rfl) rfl ?_
    refine rl_val gw_none (ov_field fo83_1 rfl) rfl ?_
    refine rl_store [] sz3 rfl rfl rfl rfl rfl (Nat.le_of_ble_eq_true rfl) ?_
    refine rl_nil ?_
    refine at_then ?_
    refine ct_seq ?_
    refine ct_reg ?_
    refine rl_val gw_none (ov_move rfl) rfl ?_
    refine rl_val gw_none (ov_move rfl) rfl ?_
    refine rl_val gw_none (ov_nilc rfl) rfl ?_
    refine rl_val gw_none (ov_field fo83_2 rfl) rfl ?_
    first | refine rl_val gw_none (ov_load 0 sc81 rfl rfl rfl) rfl ?_ | refine rl_val gw_none (ov_load 0 sc81 rfl rfl (by assumption)) rfl ?_
    refine rl_val gw_none (ov_mulk rfl rfl) rfl ?_
    refine rl_val gw_none (ov_move rfl) rfl ?_
    refine rl_val gw_none (ov_convint Try.underlying3 Try.underlying81 rfl) rfl ?_
    refine rl_val gw_none (ov_addk rfl rfl) rfl ?_
    refine rl_val gw_none (ov_addk rfl rfl) rfl ?_
    refine rl_val gw_none (ov_nilc rfl) rfl ?_
    refine rl_val gw_none (ov_field fo83_2 rfl) rfl ?_
    refine rl_store [] sz81 rfl rfl rfl rfl rfl (Nat.le_of_ble_eq_true rfl) ?_
    refine rl_nil ?_
    refine at_then ?_
    refine ct_seq ?_
    refine ct_seq ?_
    refine ct_dr 10 (by kernel_rfl) (by kernel_rfl) ?_
    refine ql_val gw_none (ov_move rfl) rfl ?_
    refine ql_val gw_none (ov_nilc rfl) rfl ?_
    refine ql_val gw_none (ov_field fo83_1 rfl) rfl ?_
    first | refine ql_val gw_none (ov_load 0 sc3 rfl rfl rfl) rfl ?_ | refine ql_val gw_none (ov_load 0 sc3 rfl rfl (by assumption)) rfl ?_
    refine ql_val gw_none (ov_move rfl) rfl ?_
    refine ql_val gw_none (ov_nilc rfl) rfl ?_
    refine ql_val gw_none (ov_field fo83_0 rfl) rfl ?_
    first | refine ql_val gw_none (ov_load 0 sc37 rfl rfl rfl) rfl ?_ | refine ql_val gw_none (ov_load 0 sc37 rfl rfl (by assumption)) rfl ?_
    refine ql_val gw_none (ov_len Try.underlying37 rfl) rfl ?_
    refine ql_val gw_none (ov_leq rfl rfl) rfl ?_
    refine ql_nil ?_
    refine rl_nil ?_
    refine at_then ?_
    first | refine ct_dec rfl (fun h3 => ?_) (fun h3 => ?_) | refine ct_ndec rfl (fun h3 => ?_) (fun h3 => ?_) | refine ct_eq rfl (fun h3 => ?_) (fun h3 => ?_) | refine ct_ne rfl (fun h3 => ?_) (fun h3 => ?_) | refine ct_not rfl (fun h3 => ?_) (fun h3 => ?_) | refine ct_cond rfl (fun h3 => ?_) (fun h3 => ?_)
    ·
      refine ct_seq ?_
      refine ct_reg ?_
      refine rl_val gw_none (ov_move rfl) rfl ?_
      refine rl_val gw_none (ov_assign rfl) rfl ?_
      refine rl_nil ?_
      refine at_then ?_
      refine ct_ret ?_
      refine at_then_ret ?_
      refine at_ret1 Try.results70 (ro_tmp rfl) (fun w1 hp => ?_)
      refine ⟨(0, _, _), ⟨?_, ?_, ?_⟩, rfl, (Hp.sub (Hp.pull hp 0 rfl) (List.sublist_append_left [_] _))⟩
      · dsimp only; omega
      · dsimp only; omega
      · dsimp only; omega
    ·
      refine ct_skip ?_
      refine at_then ?_
      refine ct_seq ?_
      refine ct_reg ?_
      refine rl_val gw_none (ov_move rfl) rfl ?_
      refine rl_val gw_none (ov_nilc rfl) rfl ?_
      refine rl_val gw_none (ov_field fo83_2 rfl) rfl ?_
      first | refine rl_val gw_none (ov_load 0 sc81 rfl rfl rfl) rfl ?_ | refine rl_val gw_none (ov_load 0 sc81 rfl rfl (by assumption)) rfl ?_
      refine rl_val gw_none (ov_shr40 rfl) rfl ?_
      refine rl_val gw_none (ov_and255 rfl) rfl ?_
      refine rl_val gw_none (ov_convint Try.underlying81 Try.underlying3 rfl) rfl ?_
      refine rl_val gw_none (ov_assign rfl) rfl ?_
      refine rl_nil ?_
      refine at_then ?_
      refine ct_ret ?_
      refine at_ret1 Try.results70 (ro_tmp rfl) (fun w1 hp => ?_)
      refine ⟨(IntKind.i64.wrap (low8 _), _, _), ⟨?_, ?_, ?_⟩, rfl, (Hp.sub (Hp.pull hp 0 rfl) (List.sublist_append_left [_] _))⟩
      · dsimp only; rw [wrap8 (low8_bd _)]; exact low8_bd _
      · dsimp only; omega
      · dsimp only; omega

theorem pick_c (n : Int) (bc : Nat) (a : Option Addr) (lc capc : Nat) (at_ s : Int) (D : List Nat) (w : World) (h0 : Hp ⟨w, D⟩ [(some bc, 83, [.slice a lc capc, .int .i64 at_, .int .u64 s])] w) (hcd : CodeOk w D a lc) (hat : 0 ≤ at_ ∧ at_ ≤ 3000000000) (hn : -1000000000 ≤ n ∧ n ≤ 1000000000) : Calls Try.prog 57 ([.pointer (some ⟨bc, 0, none⟩), .int .i64 n]).toArray w (fun e w' => ∃ j : (Int) × Int × Int, ((0 ≤ j.1 ∧ (j.1 < n ∨ j.1 = 0)) ∧ at_ ≤ j.2.1 ∧ j.2.1 ≤ at_ + 2) ∧ e = .returned (.int .i64 j.1) ∧ Hp ⟨w, D⟩ [(some bc, 83, [.slice a lc capc, .int .i64 j.2.1, .int .u64 j.2.2])] w') := by
  refine calls_ctds h0 Try.func57 Try.ntmps57 rfl rfl ?_
  refine ct_seq ?_
  refine ct_reg ?_
  refine rl_val gw_none (ov_assign rfl) rfl ?_
  refine rl_nil ?_
  refine at_then ?_
  refine ct_seq ?_
  refine ct_seq ?_
  refine ct_reg ?_
  refine rl_val gw_none (ov_move rfl) rfl ?_
  refine rl_val gw_none (ov_leq rfl rfl) rfl ?_
  refine rl_nil ?_
  refine at_then ?_
  first | refine ct_dec rfl (fun h1 => ?_) (fun h1 => ?_) | refine ct_ndec rfl (fun h1 => ?_) (fun h1 => ?_) | refine ct_eq rfl (fun h1 => ?_) (fun h1 => ?_) | refine ct_ne rfl (fun h1 => ?_) (fun h1 => ?_) | refine ct_not rfl (fun h1 => ?_) (fun h1 => ?_) | refine ct_cond rfl (fun h1 => ?_) (fun h1 => ?_)
  ·
    refine ct_seq ?_
    refine ct_reg ?_
    refine rl_val gw_none (ov_assign rfl) rfl ?_
    refine rl_nil ?_
    refine at_then ?_
    refine ct_ret ?_
    refine at_then_ret ?_
    refine at_ret1 Try.results57 (ro_tmp rfl) (fun w1 hp => ?_)
    refine ⟨(_, _, _), ⟨⟨?_, ?_⟩, ?_, ?_⟩, rfl, (Hp.sub (Hp.pull hp 0 rfl) (List.sublist_append_left [_] _))⟩
    · dsimp only; first | omega | exact Int.emod_nonneg _ (by omega)
    · dsimp only; first | omega | exact .inl (Int.emod_lt_of_pos _ (by omega))
    · dsimp only; omega
    · dsimp only; omega
  ·
    refine ct_skip ?_
    refine at_then ?_
    refine ct_seq ?_
    refine ct_reg ?_
    refine rl_val gw_none (ov_move rfl) rfl ?_
    refine rl_calld (ι := (Int) × Int × Int) (fun j => .int .i64 j.1) [_] [] (fun j => [(_, 83, [_, .int .i64 j.2.1, .int .u64 j.2.2])]) (fun j => (0 ≤ j.1 ∧ j.1 ≤ 255) ∧ _ ≤ j.2.1 ∧ j.2.1 ≤ _ + 1) gw_none goes70 rfl (fun _ hq => (hq).pull 0 rfl) (fun w1 hp h0 => next_c _ _ _ _ _ _ _ _ h0 (hcd.call hp (by simp)) (by omega)) rfl (fun j1 hj1 => ?_)
    obtain ⟨v1, t1, s1⟩ := j1
    dsimp only at hj1
    try dsimp only
    refine rl_val gw_none (ov_assign rfl) rfl ?_
    refine rl_nil ?_
    refine at_then ?_
    refine ct_seq ?_
    refine ct_seq ?_
    refine ct_reg ?_
    refine rl_val gw_none (ov_move rfl) rfl ?_
    refine rl_val gw_none (ov_gtr rfl rfl) rfl ?_
    refine rl_nil ?_
    refine at_then ?_
    first | refine ct_dec rfl (fun h2 => ?_) (fun h2 => ?_) | refine ct_ndec rfl (fun h2 => ?_) (fun h2 => ?_) | refine ct_eq rfl (fun h2 => ?_) (fun h2 => ?_) | refine ct_ne rfl (fun h2 => ?_) (fun h2 => ?_) | refine ct_not rfl (fun h2 => ?_) (fun h2 => ?_) | refine ct_cond rfl (fun h2 => ?_) (fun h2 => ?_)
    ·
      refine ct_reg ?_
      refine rl_val gw_none (ov_move rfl) rfl ?_
      refine rl_val gw_none (ov_mul rfl rfl (by omega)) rfl ?_
      refine rl_val gw_none (ov_move rfl) rfl ?_
      refine rl_calld (ι := (Int) × Int × Int) (fun j => .int .i64 j.1) [_] [] (fun j => [(_, 83, [_, .int .i64 j.2.1, .int .u64 j.2.2])]) (fun j => (0 ≤ j.1 ∧ j.1 ≤ 255) ∧ _ ≤ j.2.1 ∧ j.2.1 ≤ _ + 1) gw_none goes70 rfl (fun _ hq => (hq).pull 0 rfl) (fun w1 hp h0 => next_c _ _ _ _ _ _ _ _ h0 (hcd.call hp (by simp)) (by omega)) rfl (fun j2 hj2 => ?_)
      obtain ⟨v2, t2, s2⟩ := j2
      dsimp only at hj2
      try dsimp only
      refine rl_val gw_none (ov_add rfl rfl (by omega)) rfl ?_
      refine rl_val gw_none (ov_assign rfl) rfl ?_
      refine rl_nil ?_
      refine at_then ?_
      refine ct_seq ?_
      refine ct_reg ?_
      refine rl_val gw_none (ov_move rfl) rfl ?_
      refine rl_val gw_none (ov_move rfl) rfl ?_
      refine rl_val gw_none (ov_rem rfl rfl (by omega) (by omega)) rfl ?_
      refine rl_val gw_none (ov_assign rfl) rfl ?_
      refine rl_nil ?_
      refine at_then ?_
      refine ct_ret ?_
      refine at_ret1 Try.results57 (ro_tmp rfl) (fun w1 hp => ?_)
      refine ⟨(_, _, _), ⟨⟨?_, ?_⟩, ?_, ?_⟩, rfl, (Hp.sub (Hp.pull hp 0 rfl) (List.sublist_append_left [_] _))⟩
      · dsimp only; first | omega | exact Int.emod_nonneg _ (by omega)
      · dsimp only; first | omega | exact .inl (Int.emod_lt_of_pos _ (by omega))
      · dsimp only; omega
      · dsimp only; omega
    ·
      refine ct_skip ?_
      refine at_then ?_
      refine ct_seq ?_
      refine ct_reg ?_
      refine rl_val gw_none (ov_move rfl) rfl ?_
      refine rl_val gw_none (ov_move rfl) rfl ?_
      refine rl_val gw_none (ov_rem rfl rfl (by omega) (by omega)) rfl ?_
      refine rl_val gw_none (ov_assign rfl) rfl ?_
      refine rl_nil ?_
      refine at_then ?_
      refine ct_ret ?_
      refine at_ret1 Try.results57 (ro_tmp rfl) (fun w1 hp => ?_)
      refine ⟨(_, _, _), ⟨⟨?_, ?_⟩, ?_, ?_⟩, rfl, (Hp.sub (Hp.pull hp 0 rfl) (List.sublist_append_left [_] _))⟩
      · dsimp only; first | omega | exact Int.emod_nonneg _ (by omega)
      · dsimp only; first | omega | exact .inl (Int.emod_lt_of_pos _ (by omega))
      · dsimp only; omega
      · dsimp only; omega

theorem one_c (n : Int) (bc : Nat) (a : Option Addr) (lc capc : Nat) (at_ s : Int) (D : List Nat) (w : World) (h0 : Hp ⟨w, D⟩ [(some bc, 83, [.slice a lc capc, .int .i64 at_, .int .u64 s])] w) (hcd : CodeOk w D a lc) (hat : 0 ≤ at_ ∧ at_ ≤ 2000000000) (hn : -1000000000 ≤ n ∧ n ≤ 1000000000) : Calls Try.prog 59 ([.pointer (some ⟨bc, 0, none⟩), .int .i64 n]).toArray w (fun e w' => ∃ j : (Bool) × Int × Int, (True ∧ at_ ≤ j.2.1 ∧ j.2.1 ≤ at_ + 2) ∧ e = .returned (.bool j.1) ∧ Hp ⟨w, D⟩ [(some bc, 83, [.slice a lc capc, .int .i64 j.2.1, .int .u64 j.2.2])] w') := by
  refine calls_ctds h0 Try.func59 Try.ntmps59 rfl rfl ?_
  refine ct_seq ?_
  refine ct_reg ?_
  refine rl_val gw_none (ov_assign rfl) rfl ?_
  refine rl_nil ?_
  refine at_then ?_
  refine ct_seq ?_
  refine ct_reg ?_
  refine rl_val gw_none (ov_move rfl) rfl ?_
  refine rl_val gw_none (ov_move rfl) rfl ?_
  refine rl_calld (ι := (Int) × Int × Int) (fun j => .int .i64 j.1) [_] [] (fun j => [(_, 83, [_, .int .i64 j.2.1, .int .u64 j.2.2])]) (fun j => (0 ≤ j.1 ∧ (j.1 < _ ∨ j.1 = 0)) ∧ _ ≤ j.2.1 ∧ j.2.1 ≤ _ + 2) gw_none goes57 rfl (fun _ hq => (hq).pull 0 rfl) (fun w1 hp h0 => pick_c _ _ _ _ _ _ _ _ _ h0 (hcd.call hp (by simp)) (by omega) (by omega)) rfl (fun j3 hj3 => ?_)
  obtain ⟨v3, t3, s3⟩ := j3
  dsimp only at hj3
  try dsimp only
  refine rl_val gw_none (ov_eql rfl rfl) rfl ?_
  refine rl_val gw_none (ov_assign rfl) rfl ?_
  refine rl_nil ?_
  refine at_then ?_
  refine ct_ret ?_
  refine at_ret1 Try.results59 (ro_tmp rfl) (fun w1 hp => ?_)
  refine ⟨(_, _, _), ⟨trivial, ?_, ?_⟩, rfl, (Hp.sub (Hp.pull hp 0 rfl) (List.sublist_append_left [_] _))⟩ <;> (dsimp only; omega)

theorem among_c (lo hi : Int) (bl k capl : Nat) (L : List Value) (bc : Nat) (a : Option Addr) (lc capc : Nat) (at_ s : Int) (D : List Nat) (w : World) (h0 : Hp ⟨w, D⟩ [(some bc, 83, [.slice a lc capc, .int .i64 at_, .int .u64 s]), (some bl, 3, L)] w) (hcd : CodeOk w D a lc) (hat : 0 ≤ at_ ∧ at_ ≤ 2000000000) (hok : okIntsR lo hi L = true) (hk : 1 ≤ k ∧ k ≤ L.length ∧ k ≤ 1000) : Calls Try.prog 60 ([.pointer (some ⟨bc, 0, none⟩), .slice (some ⟨bl, 0, none⟩) k capl]).toArray w (fun e w' => ∃ j : (Int) × Int × Int, ((lo ≤ j.1 ∧ j.1 ≤ hi) ∧ at_ ≤ j.2.1 ∧ j.2.1 ≤ at_ + 2) ∧ e = .returned (.int .i64 j.1) ∧ Hp ⟨w, D⟩ [(some bc, 83, [.slice a lc capc, .int .i64 j.2.1, .int .u64 j.2.2])] w') := by
  refine calls_ctds h0 Try.func60 Try.ntmps60 rfl rfl ?_
  refine ct_seq ?_
  refine ct_reg ?_
  refine rl_val gw_none (ov_assign rfl) rfl ?_
  refine rl_nil ?_
  refine at_then ?_
  refine ct_seq ?_
  refine ct_reg ?_
  refine rl_val gw_none (ov_move rfl) rfl ?_
  refine rl_val gw_none (ov_move rfl) rfl ?_
  refine rl_val gw_none (ov_move rfl) rfl ?_
  refine rl_val gw_none (ov_len Try.underlying39 rfl) rfl ?_
  refine rl_calld (ι := (Int) × Int × Int) (fun j => .int .i64 j.1) [_] [_] (fun j => [(_, 83, [_, .int .i64 j.2.1, .int .u64 j.2.2])]) (fun j => (0 ≤ j.1 ∧ (j.1 < _ ∨ j.1 = 0)) ∧ _ ≤ j.2.1 ∧ j.2.1 ≤ _ + 2) gw_none goes57 rfl (fun _ hq => (hq).pull 0 rfl) (fun w1 hp h0 => pick_c _ _ _ _ _ _ _ _ _ h0 (hcd.call hp (by simp)) (by omega) (by omega)) rfl (fun j9 hj9 => ?_)
  obtain ⟨J, at2, s2⟩ := j9
  dsimp only at hj9
  obtain ⟨x, hx, hxb⟩ := okIntsR_at hok (show J.toNat < L.length by omega)
  first | refine rl_val gw_none (ov_ix Try.underlying39 sz3 rfl rfl _ rfl (by omega)) rfl ?_ | refine rl_val gw_none (ov_ix Try.underlying39 sz3 rfl rfl (J.toNat) (by omega) (by omega)) rfl ?_
  refine rl_val gw_none (ov_load 1 sc3 rfl rfl (atMul hx)) rfl ?_
  refine rl_val gw_none (ov_assign rfl) rfl ?_
  refine rl_nil ?_
  refine at_then ?_
  refine ct_ret ?_
  refine at_ret1 Try.results60 (ro_tmp rfl) (fun w1 hp => ?_)
  refine ⟨(x, at2, s2), ⟨hxb, ?_, ?_⟩, rfl, (Hp.sub (Hp.pull hp 0 rfl) (List.sublist_append_left [_] _))⟩ <;> (dsimp only; omega)
end Go.Proofs.Ytgnnlgmeagipjaa
