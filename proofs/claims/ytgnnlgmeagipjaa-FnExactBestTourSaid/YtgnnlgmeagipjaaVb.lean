import Derived.Test.YtgnnlgmeagipjaaVa
import Derived.Test.YtgnnlgmeagipjaaGc
import Derived.Test.YtgnnlgmeagipjaaTd
import Derived.Test.YtgnnlgmeagipjaaTf
import Derived.KernelRfl
set_option linter.unusedVariables false
set_option linter.unusedSimpArgs false
namespace Go.Proofs.Ytgnnlgmeagipjaa
open Go Go.RowKit K
theorem tellF_c (n : Nat) (a : Option Addr) (capx bL bT : Nat) (v d f c : Int) (D : List Nat) (w : World) (h0 : Hp ⟨w, D⟩ [(some bT, 3, [.int .i64 v])] w) (hL : w.cell? ⟨bL, 0, none⟩ = some (.slice a n capx)) (hbD : bL ∉ D) : Calls Try.prog 48 ([.int .i64 d, .int .i64 f, .int .i64 c, .pointer (some ⟨bL, 0, none⟩), .pointer (some ⟨bT, 0, none⟩)]).toArray w (fun e w' => ∃ _ : Unit, True ∧ e = .returned (.tuple #[]) ∧ Hp ⟨w, D⟩ [(some bT, 3, [.int .i64 (tlF n v d f c)])] w') := by
  refine calls_ctds h0 Try.func48 Try.ntmps48 rfl rfl ?_
  refine ct_seq ?_
  refine ct_reg ?_
  refine rl_val gw_none (ov_move rfl) rfl ?_
  refine rl_val gw_none (ov_loadwd sc30 rfl hL hbD) rfl ?_
  refine rl_val gw_none (ov_len Try.underlying30 rfl) rfl ?_
  refine rl_val gw_none (ov_eql rfl rfl) rfl ?_
  refine rl_val gw_none (ov_move rfl) rfl ?_
  refine rl_split (t := 12) rfl (fun g1 => ?_) (fun g1 => ?_)
  ·
    have g1' := g1
    try simp only [Bool.not_eq_true', Bool.not_eq_false', Bool.not_not, decide_eq_true_eq, decide_eq_false_iff_not, beq_iff_eq, beq_eq_false_iff_ne, bne_iff_ne, bne_eq_false_iff_eq, Bool.and_eq_true, Bool.or_eq_true, Bool.and_eq_false_iff, Bool.or_eq_false_iff, inB] at g1'
    first | refine rl_val (gw_some rfl rfl g1) (ov_load 0 sc3 rfl rfl rfl) rfl ?_ | refine rl_val (gw_some rfl rfl g1) (ov_load 0 sc3 rfl rfl (by assumption)) rfl ?_
    refine rl_val (gw_some rfl rfl g1) (ov_lss rfl rfl) rfl ?_
    refine rl_val (gw_some rfl rfl g1) (ov_move rfl) rfl ?_
    refine rl_split (t := 15) rfl (fun g2 => ?_) (fun g2 => ?_)
    ·
      have g2' := g2
      try simp only [Bool.not_eq_true', Bool.not_eq_false', Bool.not_not, decide_eq_true_eq, decide_eq_false_iff_not, beq_iff_eq, beq_eq_false_iff_ne, bne_iff_ne, bne_eq_false_iff_eq, Bool.and_eq_true, Bool.or_eq_true, Bool.and_eq_false_iff, Bool.or_eq_false_iff, inB] at g2'
      refine rl_skip (gw_not rfl rfl g2) rfl ?_
      refine rl_skip (gw_not rfl rfl g2) rfl ?_
      refine rl_skip (gw_not rfl rfl g2) rfl ?_
      refine rl_val (gw_some rfl rfl g1) (ov_pick_t rfl g2 rfl) rfl ?_
      refine rl_val gw_none (ov_pick_t rfl g1 rfl) rfl ?_
      refine rl_nil ?_
      refine at_then ?_
      refine ct_true rfl rfl ?_
      refine ct_reg ?_
      refine rl_val gw_none (ov_move rfl) rfl ?_
      refine rl_store [] sz3 rfl rfl rfl rfl rfl (Nat.le_of_ble_eq_true rfl) ?_
      refine rl_nil ?_
      refine at_end ?_
      refine at_ret0 Try.results48 (fun w1 hp => ?_)
      refine ⟨(), trivial, rfl, hp.cong ?_⟩
      first | (rw [tlF_yes (by omega) (by omega)]; rfl) | (rw [tlF_no (by omega)]; try rfl)
    ·
      have g2' := g2
      try simp only [Bool.not_eq_true', Bool.not_eq_false', Bool.not_not, decide_eq_true_eq, decide_eq_false_iff_not, beq_iff_eq, beq_eq_false_iff_ne, bne_iff_ne, bne_eq_false_iff_eq, Bool.and_eq_true, Bool.or_eq_true, Bool.and_eq_false_iff, Bool.or_eq_false_iff, inB] at g2'
      refine rl_val (gw_some rfl rfl g2) (ov_move rfl) rfl ?_
      first | refine rl_val (gw_some rfl rfl g2) (ov_load 0 sc3 rfl rfl rfl) rfl ?_ | refine rl_val (gw_some rfl rfl g2) (ov_load 0 sc3 rfl rfl (by assumption)) rfl ?_
      refine rl_val (gw_some rfl rfl g2) (ov_lss rfl rfl) rfl ?_
      refine rl_val (gw_some rfl rfl g1) (ov_pick_f rfl g2 rfl) rfl ?_
      refine rl_val gw_none (ov_pick_t rfl g1 rfl) rfl ?_
      refine rl_nil ?_
      refine at_then ?_
      first | refine ct_dec rfl (fun h1 => ?_) (fun h1 => ?_) | refine ct_ndec rfl (fun h1 => ?_) (fun h1 => ?_) | refine ct_eq rfl (fun h1 => ?_) (fun h1 => ?_) | refine ct_ne rfl (fun h1 => ?_) (fun h1 => ?_) | refine ct_not rfl (fun h1 => ?_) (fun h1 => ?_) | refine ct_cond rfl (fun h1 => ?_) (fun h1 => ?_)
      ·
        refine ct_reg ?_
        refine rl_val gw_none (ov_move rfl) rfl ?_
        refine rl_store [] sz3 rfl rfl rfl rfl rfl (Nat.le_of_ble_eq_true rfl) ?_
        refine rl_nil ?_
        refine at_end ?_
        refine at_ret0 Try.results48 (fun w1 hp => ?_)
        refine ⟨(), trivial, rfl, hp.cong ?_⟩
        first | (rw [tlF_yes (by omega) (by omega)]; rfl) | (rw [tlF_no (by omega)]; try rfl)
      ·
        refine ct_skip ?_
        refine at_end ?_
        refine at_ret0 Try.results48 (fun w1 hp => ?_)
        refine ⟨(), trivial, rfl, hp.cong ?_⟩
        first | (rw [tlF_yes (by omega) (by omega)]; rfl) | (rw [tlF_no (by omega)]; try rfl)
  ·
    have g1' := g1
    try simp only [Bool.not_eq_true', Bool.not_eq_false', Bool.not_not, decide_eq_true_eq, decide_eq_false_iff_not, beq_iff_eq, beq_eq_false_iff_ne, bne_iff_ne, bne_eq_false_iff_eq, Bool.and_eq_true, Bool.or_eq_true, Bool.and_eq_false_iff, Bool.or_eq_false_iff, inB] at g1'
    refine rl_skip (gw_not rfl rfl g1) rfl ?_
    refine rl_skip (gw_not rfl rfl g1) rfl ?_
    refine rl_skip (gw_not rfl rfl g1) rfl ?_
    refine rl_skip (gw_undef rfl rfl) rfl ?_
    refine rl_skip (gw_undef rfl rfl) rfl ?_
    refine rl_skip (gw_undef rfl rfl) rfl ?_
    refine rl_skip (gw_not rfl rfl g1) rfl ?_
    refine rl_val gw_none (ov_pick_f rfl g1 rfl) rfl ?_
    refine rl_nil ?_
    refine at_then ?_
    refine ct_false rfl rfl ?_
    refine ct_skip ?_
    refine at_end ?_
    refine at_ret0 Try.results48 (fun w1 hp => ?_)
    refine ⟨(), trivial, rfl, hp.cong ?_⟩
    first | (rw [tlF_yes (by omega) (by omega)]; rfl) | (rw [tlF_no (by omega)]; try rfl)

theorem tellB_c (days : Int) (bL bT : Nat) (v d f c : Int) (D : List Nat) (w : World) (h0 : Hp ⟨w, D⟩ [(some bT, 3, [.int .i64 v])] w) (hL : w.cell? ⟨bL, 0, none⟩ = some (.int .i64 days)) (hbD : bL ∉ D) : Calls Try.prog 54 ([.int .i64 d, .int .i64 f, .int .i64 c, .pointer (some ⟨bL, 0, none⟩), .pointer (some ⟨bT, 0, none⟩)]).toArray w (fun e w' => ∃ _ : Unit, True ∧ e = .returned (.tuple #[]) ∧ Hp ⟨w, D⟩ [(some bT, 3, [.int .i64 (tlB days v d f c)])] w') := by
  refine calls_ctds h0 Try.func54 Try.ntmps54 rfl rfl ?_
  refine ct_seq ?_
  refine ct_reg ?_
  refine rl_val gw_none (ov_move rfl) rfl ?_
  refine rl_val gw_none (ov_loadwd sc3 rfl hL hbD) rfl ?_
  refine rl_val gw_none (ov_leq rfl rfl) rfl ?_
  refine rl_nil ?_
  refine at_then ?_
  first | refine ct_dec rfl (fun h1 => ?_) (fun h1 => ?_) | refine ct_ndec rfl (fun h1 => ?_) (fun h1 => ?_) | refine ct_eq rfl (fun h1 => ?_) (fun h1 => ?_) | refine ct_ne rfl (fun h1 => ?_) (fun h1 => ?_) | refine ct_not rfl (fun h1 => ?_) (fun h1 => ?_) | refine ct_cond rfl (fun h1 => ?_) (fun h1 => ?_)
  ·
    refine ct_reg ?_
    first | refine rl_val gw_none (ov_load 0 sc3 rfl rfl rfl) rfl ?_ | refine rl_val gw_none (ov_load 0 sc3 rfl rfl (by assumption)) rfl ?_
    refine rl_val gw_none (ov_move rfl) rfl ?_
    refine rl_val gw_none (ov_max rfl rfl) rfl ?_
    refine rl_store [] sz3 rfl rfl rfl rfl rfl (Nat.le_of_ble_eq_true rfl) ?_
    refine rl_nil ?_
    refine at_end ?_
    refine at_ret0 Try.results54 (fun w1 hp => ?_)
    refine ⟨(), trivial, rfl, hp.cong ?_⟩
    first | (rw [tlB_yes (by omega)]; rfl) | (rw [tlB_no (by omega)]; try rfl)
  ·
    refine ct_skip ?_
    refine at_end ?_
    refine at_ret0 Try.results54 (fun w1 hp => ?_)
    refine ⟨(), trivial, rfl, hp.cong ?_⟩
    first | (rw [tlB_yes (by omega)]; rfl) | (rw [tlB_no (by omega)]; try rfl)

theorem tellF_ok (n : Nat) (a : Option Addr) (capx bL bT hb : Nat) (D : List Nat) (w : World) (hL : w.cell? ⟨bL, 0, none⟩ = some (.slice a n capx)) (hbD : bL ∉ D) (hbT : bL ≠ bT) : TellOK 48 [.pointer (some ⟨bL, 0, none⟩), .pointer (some ⟨bT, 0, none⟩)] (tlF n) bT hb D w := fun w1 v hs h1 d f c =>
  tellF_c n a capx bL bT v d f c [bT] w1 (h1.sub ((List.nil_sublist _).cons_cons _)).self (h1.oldD hL hbD) (by simpa using hbT)
theorem tellB_ok (days : Int) (bL bT hb : Nat) (D : List Nat) (w : World) (hL : w.cell? ⟨bL, 0, none⟩ = some (.int .i64 days)) (hbD : bL ∉ D) (hbT : bL ≠ bT) : TellOK 54 [.pointer (some ⟨bL, 0, none⟩), .pointer (some ⟨bT, 0, none⟩)] (tlB days) bT hb D w := fun w1 v hs h1 d f c =>
  tellB_c days bL bT v d f c [bT] w1 (h1.sub ((List.nil_sublist _).cons_cons _)).self (h1.oldD hL hbD) (by simpa using hbT)
end Go.Proofs.Ytgnnlgmeagipjaa
