import Derived.Test.YtaohanhgengicaaTk
import Derived.Test.YtaohanhgengicaaTc
import Derived.KernelRfl
set_option linter.unusedVariables false
set_option linter.unusedSimpArgs false
namespace Go.Proofs.Ytaohanhgengicaa
open Go Go.RowKit K
theorem moved_c (u l : Int) (xs : List IntA2) (m : BeadMove) (vxs : Value) (w : World) (zu : In64 u) (zl : In64 l) (hGxs : ∀ y ∈ xs, GIntA2 y) (hsxs : SR w 2 vxs xs.length (flat encIntA2 xs)) (hf : frameB u l xs = true) (hm : moveB m = true) : Calls Try.prog 76 ([.agg (List.toArray (α := Value) [.int .i64 u, .int .i64 l, vxs]), .agg (encBeadMove m).toArray]).toArray w (fun e w' => RetSl 75 2 (flat encIntA2 (makeR u l xs m).xs) (makeR u l xs m).xs.length (fun s => .tuple #[.agg [.int .i64 (makeR u l xs m).u, .int .i64 (makeR u l xs m).l, s].toArray, .bool (makeR u l xs m).ok]) w e w') := by
  obtain ⟨axs, capxs, rfl, hcapxs, hmaxxs⟩ := hsxs.slice
  have hlenxs := hsxs.len_le
  have h8 := (frameB_ul hf).2.2.2
  have hl1 := (frameB_ul hf).2.2.1
  have hmb := moveB_at hm
  refine calls_ct Try.func76 Try.ntmps76 rfl rfl ?_
  refine ct_seq ?_
  refine ct_reg ?_
  refine rl_box rfl rfl (fun N1 => ?_)
  refine rl_box rfl rfl (fun N2 => ?_)
  refine rl_alloc ze24 rfl (fun N3 => ?_)
  refine rl_val gw_none (ov_assign rfl) rfl ?_
  refine rl_nil ?_
  refine at_then ?_
  refine ct_seq ?_
  refine ct_seq ?_
  refine ct_reg ?_
  first | refine rl_val gw_none (ov_loadall 2 ag24 rfl rfl rfl) rfl ?_ | refine rl_val gw_none (ov_loadp 2 ag24 rfl rfl (vs := [_, _, _]) rfl rfl) rfl ?_ | refine rl_val gw_none (ov_loada 2 ag24 rfl rfl rfl (by assumption)) rfl ?_
  refine rl_val gw_none (ov_field fo40_0 rfl) rfl ?_
  first | refine rl_val gw_none (ov_load 1 sc3 rfl rfl rfl) rfl ?_ | refine rl_val gw_none (ov_load 1 sc3 rfl rfl (by assumption)) rfl ?_
  refine rl_callv gw_none goes67 rfl (fun w1 hp => hasRod_c u l xs _ m.rod _ zu zl hGxs (hsxs.ext hp.ext0)) rfl ?_
  refine rl_val gw_none (ov_not rfl) rfl ?_
  refine rl_nil ?_
  refine at_then ?_
  first | refine ct_dec rfl (fun h1 => ?_) (fun h1 => ?_) | refine ct_ndec rfl (fun h1 => ?_) (fun h1 => ?_) | refine ct_eq rfl (fun h1 => ?_) (fun h1 => ?_) | refine ct_ne rfl (fun h1 => ?_) (fun h1 => ?_) | refine ct_not rfl (fun h1 => ?_) (fun h1 => ?_) | refine ct_cond rfl (fun h1 => ?_) (fun h1 => ?_)
  ·
    refine ct_seq ?_
    refine ct_reg ?_
    refine rl_val gw_none (ov_build rfl (bu24_)) rfl ?_
    refine rl_store [] sz24 rfl rfl rfl rfl rfl (Nat.le_of_ble_eq_true rfl) ?_
    refine rl_val gw_none (ov_assign rfl) rfl ?_
    refine rl_nil ?_
    refine at_then ?_
    refine ct_ret ?_
    refine at_then_ret ?_
    refine at_ret2 Try.results76 (ro_cell 0 ag24 rfl rfl rfl) (ro_tmp rfl) (fun w1 hp => ?_)
    unfold makeR
    first | (rw [okR_no (by unfold makeB; first | (simp_all; done) | (simp_all [inB]; done) | (simp_all [inB]; omega) | (simp_all; omega))]; exact RetSl.nil hp.ext0) | (rw [okR_yes (by unfold makeB; first | (simp_all; done) | (simp_all [inB]; done) | (simp_all [inB]; omega) | (simp_all; omega))]; exact RetSl.ownL 999 hp rfl (Sl.same encIntA2_len hsow (moveL_len xs m)) (moveL_len xs m).symm)
  ·
    have hrl : m.rod.toNat < xs.length := by first | omega | (have hq := h1; simp only [inB, Bool.not_eq_false', Bool.not_eq_true', Bool.and_eq_true, decide_eq_true_eq, Bool.not_eq_false] at hq; omega)
    obtain ⟨b, o, rfl, hel⟩ := hsxs.elem encIntA2_len (by omega) hrl
    have hx := getLt hrl
    generalize xs[m.rod.toNat] = r at *
    have hcx := hel _ r hx
    obtain ⟨c0, c1, _⟩ := hel _ r hx
    have hrb := frameB_at hf hx
    have hml := moveL_eq hx
    have hlen2 := moveL_len xs m
    refine ct_skip ?_
    refine at_then ?_
    refine ct_seq ?_
    refine ct_reg ?_
    first | refine rl_val gw_none (ov_loadall 2 ag24 rfl rfl rfl) rfl ?_ | refine rl_val gw_none (ov_loadp 2 ag24 rfl rfl (vs := [_, _, _]) rfl rfl) rfl ?_ | refine rl_val gw_none (ov_loada 2 ag24 rfl rfl rfl (by assumption)) rfl ?_
    refine rl_callsl (ι := Nat × List Value) (fun i bo => .agg [.int .i64 u, .int .i64 l, sv bo (xs).length i.1].toArray) (fun i => flat encIntA2 (xs) ++ i.2) (fun i bo => Sl 2 bo (xs).length i.1 (flat encIntA2 (xs)) i.2) goes68 rfl (fun w1 hp => own_c u l xs _ _ zu zl hGxs (hsxs.ext hp.ext0) h8) rfl (fun iow boow hsow => ?_)
    obtain ⟨bow, rfl⟩ := Sl.some hsow (by omega)
    have hca := flatAt2 hx hmb.2.1 iow.2
    have hpv : -10 ≤ (if m.part = 0 then r.a else r.b) ∧ (if m.part = 0 then r.a else r.b) ≤ 10 := by split <;> omega
    refine rl_alloc ze24 rfl (fun N4 => ?_)
    refine rl_store [] sz24 rfl rfl rfl rfl rfl (Nat.le_of_ble_eq_true rfl) ?_
    refine rl_nil ?_
    refine at_then ?_
    refine ct_seq ?_
    refine ct_dr 14 (by kernel_rfl) (by kernel_rfl) ?_
    refine ql_val gw_none (ov_field fo24_2 rfl) rfl ?_
    first | refine ql_val gw_none (ov_load 0 sc22 rfl rfl rfl) rfl ?_ | refine ql_val gw_none (ov_load 0 sc22 rfl rfl (by assumption)) rfl ?_
    refine ql_val gw_none (ov_field fo40_0 rfl) rfl ?_
    first | refine ql_val gw_none (ov_load 3 sc3 rfl rfl rfl) rfl ?_ | refine ql_val gw_none (ov_load 3 sc3 rfl rfl (by assumption)) rfl ?_
    refine ql_val gw_none (ov_field fo40_1 rfl) rfl ?_
    first | refine ql_val gw_none (ov_load 3 sc3 rfl rfl rfl) rfl ?_ | refine ql_val gw_none (ov_load 3 sc3 rfl rfl (by assumption)) rfl ?_
    first | refine ql_val gw_none (ov_ix Try.underlying22 sz75 rfl rfl _ rfl (by omega)) rfl ?_ | refine ql_val gw_none (ov_ix Try.underlying22 sz75 rfl rfl (m.rod.toNat) (by omega) (by omega)) rfl ?_ | refine ql_val gw_none (ov_ix Try.underlying22 sz75 rfl rfl (m.part.toNat) (by omega) (by omega)) rfl ?_
    first | refine ql_val gw_none (ov_ixa Try.underlying75 sz3 rfl rfl _ rfl (by omega)) rfl ?_ | refine ql_val gw_none (ov_ixa Try.underlying75 sz3 rfl rfl (m.rod.toNat) (by omega) (by omega)) rfl ?_ | refine ql_val gw_none (ov_ixa Try.underlying75 sz3 rfl rfl (m.part.toNat) (by omega) (by omega)) rfl ?_
    first | refine ql_val gw_none (ov_load 1 sc3 rfl rfl rfl) rfl ?_ | refine ql_val gw_none (ov_load 1 sc3 rfl rfl (by assumption)) rfl ?_
    refine ql_val gw_none (ov_field fo40_2 rfl) rfl ?_
    first | refine ql_val gw_none (ov_load 3 sc3 rfl rfl rfl) rfl ?_ | refine ql_val gw_none (ov_load 3 sc3 rfl rfl (by assumption)) rfl ?_
    refine ql_val gw_none (ov_add rfl rfl (by omega)) rfl ?_
    first | refine ql_val gw_none (ov_ix Try.underlying22 sz75 rfl rfl _ rfl (by omega)) rfl ?_ | refine ql_val gw_none (ov_ix Try.underlying22 sz75 rfl rfl (m.rod.toNat) (by omega) (by omega)) rfl ?_ | refine ql_val gw_none (ov_ix Try.underlying22 sz75 rfl rfl (m.part.toNat) (by omega) (by omega)) rfl ?_
    first | refine ql_val gw_none (ov_ixa Try.underlying75 sz3 rfl rfl _ rfl (by omega)) rfl ?_ | refine ql_val gw_none (ov_ixa Try.underlying75 sz3 rfl rfl (m.rod.toNat) (by omega) (by omega)) rfl ?_ | refine ql_val gw_none (ov_ixa Try.underlying75 sz3 rfl rfl (m.part.toNat) (by omega) (by omega)) rfl ?_
    refine ql_nil ?_
    refine rl_store [_] sz3 rfl rfl rfl rfl rfl (by rw [List.length_append, flat_length encIntA2_len]; omega) ?_
    refine rl_mem (fun _ hq => hq.cong (congrArg (fun x => _ :: (_, _, x) :: _) (moveCell hx hmb.2.1 _))) ?_
    refine rl_nil ?_
    refine at_then ?_
    refine ct_seq ?_
    refine ct_seq ?_
    refine ct_reg ?_
    first | refine rl_val gw_none (ov_loadall 0 ag24 rfl rfl rfl) rfl ?_ | refine rl_val gw_none (ov_loadp 0 ag24 rfl rfl (vs := [_, _, _]) rfl rfl) rfl ?_ | refine rl_val gw_none (ov_loada 0 ag24 rfl rfl rfl (by assumption)) rfl ?_
    refine rl_callv gw_none goes56 rfl (fun w1 hp => iIsFrame_c u l (moveL xs m) _ _ zu zl (moveL_G hGxs hx hrb hmb.2.2.1) (SR.cast (hp.slsr 1 rfl (Sl.same encIntA2_len hsow (moveL_len xs m))) (moveL_len xs m).symm rfl)) rfl ?_
    refine rl_val gw_none (ov_not rfl) rfl ?_
    refine rl_nil ?_
    refine at_then ?_
    first | refine ct_dec rfl (fun h2 => ?_) (fun h2 => ?_) | refine ct_ndec rfl (fun h2 => ?_) (fun h2 => ?_) | refine ct_eq rfl (fun h2 => ?_) (fun h2 => ?_) | refine ct_ne rfl (fun h2 => ?_) (fun h2 => ?_) | refine ct_not rfl (fun h2 => ?_) (fun h2 => ?_) | refine ct_cond rfl (fun h2 => ?_) (fun h2 => ?_)
    ·
      refine ct_seq ?_
      refine ct_reg ?_
      refine rl_val gw_none (ov_build rfl (bu24_)) rfl ?_
      refine rl_store [_, _] sz24 rfl rfl rfl rfl rfl (Nat.le_of_ble_eq_true rfl) ?_
      refine rl_val gw_none (ov_assign rfl) rfl ?_
      refine rl_nil ?_
      refine at_then ?_
      refine ct_ret ?_
      refine at_then_ret ?_
      refine at_ret2 Try.results76 (ro_cell 2 ag24 rfl rfl rfl) (ro_tmp rfl) (fun w1 hp => ?_)
      unfold makeR
      first | (rw [okR_no (by unfold makeB; first | (simp_all; done) | (simp_all [inB]; done) | (simp_all [inB]; omega) | (simp_all; omega))]; exact RetSl.nil hp.ext0) | (rw [okR_yes (by unfold makeB; first | (simp_all; done) | (simp_all [inB]; done) | (simp_all [inB]; omega) | (simp_all; omega))]; exact RetSl.ownL 1 hp rfl (Sl.same encIntA2_len hsow (moveL_len xs m)) (moveL_len xs m).symm)
    ·
      refine ct_skip ?_
      refine at_then ?_
      refine ct_seq ?_
      refine ct_reg ?_
      first | refine rl_val gw_none (ov_loadall 0 ag24 rfl rfl rfl) rfl ?_ | refine rl_val gw_none (ov_loadp 0 ag24 rfl rfl (vs := [_, _, _]) rfl rfl) rfl ?_ | refine rl_val gw_none (ov_loada 0 ag24 rfl rfl rfl (by assumption)) rfl ?_
      refine rl_store [_, _] sz24 rfl rfl rfl rfl rfl (Nat.le_of_ble_eq_true rfl) ?_
      refine rl_val gw_none (ov_assign rfl) rfl ?_
      refine rl_nil ?_
      refine at_then ?_
      refine ct_ret ?_
      refine at_ret2 Try.results76 (ro_cell 2 ag24 rfl rfl rfl) (ro_tmp rfl) (fun w1 hp => ?_)
      unfold makeR
      first | (rw [okR_no (by unfold makeB; first | (simp_all; done) | (simp_all [inB]; done) | (simp_all [inB]; omega) | (simp_all; omega))]; exact RetSl.nil hp.ext0) | (rw [okR_yes (by unfold makeB; first | (simp_all; done) | (simp_all [inB]; done) | (simp_all [inB]; omega) | (simp_all; omega))]; exact RetSl.ownL 1 hp rfl (Sl.same encIntA2_len hsow (moveL_len xs m)) (moveL_len xs m).symm)

theorem l4Make_c (u l : Int) (xs : List IntA2) (m : BeadMove) (vxs : Value) (w : World) (zu : In64 u) (zl : In64 l) (hGxs : ∀ y ∈ xs, GIntA2 y) (hsxs : SR w 2 vxs xs.length (flat encIntA2 xs)) (hf : frameB u l xs = true) (hm : moveB m = true) : Calls Try.prog 74 ([.agg (List.toArray (α := Value) [.int .i64 u, .int .i64 l, vxs]), .agg (encBeadMove m).toArray]).toArray w (fun e w' => RetSl 75 2 (flat encIntA2 (makeR u l xs m).xs) (makeR u l xs m).xs.length (fun s => .tuple #[.agg [.int .i64 (makeR u l xs m).u, .int .i64 (makeR u l xs m).l, s].toArray, .bool (makeR u l xs m).ok]) w e w') := by
  obtain ⟨axs, capxs, rfl, hcapxs, hmaxxs⟩ := hsxs.slice
  have hlenxs := hsxs.len_le
  have h8 := (frameB_ul hf).2.2.2
  have hl1 := (frameB_ul hf).2.2.1
  have hmb := moveB_at hm
  refine calls_ct Try.func74 Try.ntmps74 rfl rfl ?_
  refine ct_seq ?_
  refine ct_reg ?_
  refine rl_box rfl rfl (fun N1 => ?_)
  refine rl_box rfl rfl (fun N2 => ?_)
  refine rl_alloc ze24 rfl (fun N3 => ?_)
  refine rl_val gw_none (ov_assign rfl) rfl ?_
  refine rl_nil ?_
  refine at_then ?_
  refine ct_seq ?_
  refine ct_seq ?_
  refine ct_reg ?_
  refine rl_val gw_none (ov_field fo40_0 rfl) rfl ?_
  first | refine rl_val gw_none (ov_load 1 sc3 rfl rfl rfl) rfl ?_ | refine rl_val gw_none (ov_load 1 sc3 rfl rfl (by assumption)) rfl ?_
  refine rl_val gw_none (ov_field fo24_2 rfl) rfl ?_
  first | refine rl_val gw_none (ov_load 2 sc22 rfl rfl rfl) rfl ?_ | refine rl_val gw_none (ov_load 2 sc22 rfl rfl (by assumption)) rfl ?_
  refine rl_val gw_none (ov_len Try.underlying22 rfl) rfl ?_
  refine rl_val gw_none (ov_geq rfl rfl) rfl ?_
  refine rl_nil ?_
  refine at_then ?_
  first | refine ct_dec rfl (fun h1 => ?_) (fun h1 => ?_) | refine ct_ndec rfl (fun h1 => ?_) (fun h1 => ?_) | refine ct_eq rfl (fun h1 => ?_) (fun h1 => ?_) | refine ct_ne rfl (fun h1 => ?_) (fun h1 => ?_) | refine ct_not rfl (fun h1 => ?_) (fun h1 => ?_) | refine ct_cond rfl (fun h1 => ?_) (fun h1 => ?_)
  ·
    refine ct_seq ?_
    refine ct_reg ?_
    refine rl_val gw_none (ov_build rfl (bu24_)) rfl ?_
    refine rl_store [] sz24 rfl rfl rfl rfl rfl (Nat.le_of_ble_eq_true rfl) ?_
    refine rl_val gw_none (ov_assign rfl) rfl ?_
    refine rl_nil ?_
    refine at_then ?_
    refine ct_ret ?_
    refine at_then_ret ?_
    refine at_ret2 Try.results74 (ro_cell 0 ag24 rfl rfl rfl) (ro_tmp rfl) (fun w1 hp => ?_)
    unfold makeR
    first | (rw [okR_no (by unfold makeB; first | (simp_all; done) | (simp_all [inB]; done) | (simp_all [inB]; omega) | (simp_all; omega))]; exact RetSl.nil hp.ext0) | (rw [okR_yes (by unfold makeB; first | (simp_all; done) | (simp_all [inB]; done) | (simp_all [inB]; omega) | (simp_all; omega))]; exact RetSl.ownL 999 hp rfl (Sl.same encIntA2_len hsow (moveL_len xs m)) (moveL_len xs m).symm)
  ·
    have hrl : m.rod.toNat < xs.length := by first | omega | (have hq := h1; simp only [inB, Bool.not_eq_false', Bool.not_eq_true', Bool.and_eq_true, decide_eq_true_eq, Bool.not_eq_false] at hq; omega)
    obtain ⟨b, o, rfl, hel⟩ := hsxs.elem encIntA2_len (by omega) hrl
    have hx := getLt hrl
    generalize xs[m.rod.toNat] = r at *
    have hcx := hel _ r hx
    obtain ⟨c0, c1, _⟩ := hel _ r hx
    have hrb := frameB_at hf hx
    have hml := moveL_eq hx
    have hlen2 := moveL_len xs m
    refine ct_skip ?_
    refine at_then ?_
    refine ct_seq ?_
    refine ct_reg ?_
    first | refine rl_val gw_none (ov_loadall 2 ag24 rfl rfl rfl) rfl ?_ | refine rl_val gw_none (ov_loadp 2 ag24 rfl rfl (vs := [_, _, _]) rfl rfl) rfl ?_ | refine rl_val gw_none (ov_loada 2 ag24 rfl rfl rfl (by assumption)) rfl ?_
    refine rl_callsl (ι := Nat × List Value) (fun i bo => .agg [.int .i64 u, .int .i64 l, sv bo (xs).length i.1].toArray) (fun i => flat encIntA2 (xs) ++ i.2) (fun i bo => Sl 2 bo (xs).length i.1 (flat encIntA2 (xs)) i.2) goes64 rfl (fun w1 hp => l2Own_c u l xs _ _ zu zl hGxs (hsxs.ext hp.ext0) h8) rfl (fun iow boow hsow => ?_)
    obtain ⟨bow, rfl⟩ := Sl.some hsow (by omega)
    refine rl_alloc ze24 rfl (fun N4 => ?_)
    refine rl_store [] sz24 rfl rfl rfl rfl rfl (Nat.le_of_ble_eq_true rfl) ?_
    refine rl_nil ?_
    refine at_then ?_
    refine ct_seq ?_
    refine ct_reg ?_
    refine rl_val gw_none (ov_field fo24_2 rfl) rfl ?_
    first | refine rl_val gw_none (ov_load 4 sc22 rfl rfl rfl) rfl ?_ | refine rl_val gw_none (ov_load 4 sc22 rfl rfl (by assumption)) rfl ?_
    refine rl_val gw_none (ov_field fo40_0 rfl) rfl ?_
    first | refine rl_val gw_none (ov_load 3 sc3 rfl rfl rfl) rfl ?_ | refine rl_val gw_none (ov_load 3 sc3 rfl rfl (by assumption)) rfl ?_
    first | refine rl_val gw_none (ov_ix Try.underlying22 sz75 rfl rfl _ rfl (by omega)) rfl ?_ | refine rl_val gw_none (ov_ix Try.underlying22 sz75 rfl rfl (m.rod.toNat) (by omega) (by omega)) rfl ?_ | refine rl_val gw_none (ov_ix Try.underlying22 sz75 rfl rfl (0) (by omega) (by omega)) rfl ?_ | refine rl_val gw_none (ov_ix Try.underlying22 sz75 rfl rfl (1) (by omega) (by omega)) rfl ?_
    first | refine rl_val gw_none (ov_loadaw ag75 rfl rfl (by assumption)) rfl ?_ | refine rl_val gw_none (ov_loadall 0 ag75 rfl rfl rfl) rfl ?_ | refine rl_val gw_none (ov_loadall 1 ag75 rfl rfl rfl) rfl ?_ | refine rl_val gw_none (ov_loadall 2 ag75 rfl rfl rfl) rfl ?_ | refine rl_val gw_none (ov_loadall 3 ag75 rfl rfl rfl) rfl ?_
    refine rl_alloc ze75 rfl (fun N5 => ?_)
    refine rl_store [] sz75 rfl rfl rfl rfl rfl (Nat.le_of_ble_eq_true rfl) ?_
    refine rl_nil ?_
    refine at_then ?_
    refine ct_seq ?_
    refine ct_seq ?_
    refine ct_reg ?_
    refine rl_val gw_none (ov_field fo40_1 rfl) rfl ?_
    first | refine rl_val gw_none (ov_load 4 sc3 rfl rfl rfl) rfl ?_ | refine rl_val gw_none (ov_load 4 sc3 rfl rfl (by assumption)) rfl ?_
    refine rl_val gw_none (ov_eql rfl rfl) rfl ?_
    refine rl_nil ?_
    refine at_then ?_
    first | refine ct_dec rfl (fun h2 => ?_) (fun h2 => ?_) | refine ct_ndec rfl (fun h2 => ?_) (fun h2 => ?_) | refine ct_eq rfl (fun h2 => ?_) (fun h2 => ?_) | refine ct_ne rfl (fun h2 => ?_) (fun h2 => ?_) | refine ct_not rfl (fun h2 => ?_) (fun h2 => ?_) | refine ct_cond rfl (fun h2 => ?_) (fun h2 => ?_)
    ·
      refine ct_reg ?_
      refine rl_val gw_none (ov_field fo24_2 rfl) rfl ?_
      first | refine rl_val gw_none (ov_load 1 sc22 rfl rfl rfl) rfl ?_ | refine rl_val gw_none (ov_load 1 sc22 rfl rfl (by assumption)) rfl ?_
      refine rl_val gw_none (ov_field fo40_0 rfl) rfl ?_
      first | refine rl_val gw_none (ov_load 4 sc3 rfl rfl rfl) rfl ?_ | refine rl_val gw_none (ov_load 4 sc3 rfl rfl (by assumption)) rfl ?_
      first | refine rl_val gw_none (ov_ixa Try.underlying75 sz3 rfl rfl _ rfl (by omega)) rfl ?_ | refine rl_val gw_none (ov_ixa Try.underlying75 sz3 rfl rfl (m.rod.toNat) (by omega) (by omega)) rfl ?_ | refine rl_val gw_none (ov_ixa Try.underlying75 sz3 rfl rfl (0) (by omega) (by omega)) rfl ?_ | refine rl_val gw_none (ov_ixa Try.underlying75 sz3 rfl rfl (1) (by omega) (by omega)) rfl ?_
      first | refine rl_val gw_none (ov_load 0 sc3 rfl rfl rfl) rfl ?_ | refine rl_val gw_none (ov_load 0 sc3 rfl rfl (by assumption)) rfl ?_
      refine rl_val gw_none (ov_field fo40_2 rfl) rfl ?_
      first | refine rl_val gw_none (ov_load 4 sc3 rfl rfl rfl) rfl ?_ | refine rl_val gw_none (ov_load 4 sc3 rfl rfl (by assumption)) rfl ?_
      refine rl_val gw_none (ov_add rfl rfl (by omega)) rfl ?_
      first | refine rl_val gw_none (ov_ixa Try.underlying75 sz3 rfl rfl _ rfl (by omega)) rfl ?_ | refine rl_val gw_none (ov_ixa Try.underlying75 sz3 rfl rfl (m.rod.toNat) (by omega) (by omega)) rfl ?_ | refine rl_val gw_none (ov_ixa Try.underlying75 sz3 rfl rfl (0) (by omega) (by omega)) rfl ?_ | refine rl_val gw_none (ov_ixa Try.underlying75 sz3 rfl rfl (1) (by omega) (by omega)) rfl ?_
      first | refine rl_val gw_none (ov_load 0 sc3 rfl rfl rfl) rfl ?_ | refine rl_val gw_none (ov_load 0 sc3 rfl rfl (by assumption)) rfl ?_
      refine rl_val gw_none (ov_build rfl (bu75_0_1 _ _)) rfl ?_
      first | refine rl_val gw_none (ov_ix Try.underlying22 sz75 rfl rfl _ rfl (by omega)) rfl ?_ | refine rl_val gw_none (ov_ix Try.underlying22 sz75 rfl rfl (m.rod.toNat) (by omega) (by omega)) rfl ?_ | refine rl_val gw_none (ov_ix Try.underlying22 sz75 rfl rfl (0) (by omega) (by omega)) rfl ?_ | refine rl_val gw_none (ov_ix Try.underlying22 sz75 rfl rfl (1) (by omega) (by omega)) rfl ?_
      refine rl_store [_, _] sz75 rfl rfl rfl rfl rfl (by rw [List.length_append, flat_length encIntA2_len]; omega) ?_
      refine rl_mem (fun _ hq => hq.cong (congrArg (fun x => _ :: _ :: (_, _, x) :: _) (moveRod0 hx (by omega) _))) ?_
      refine rl_nil ?_
      refine at_then ?_
      refine ct_seq ?_
      refine ct_seq ?_
      refine ct_reg ?_
      first | refine rl_val gw_none (ov_loadall 1 ag24 rfl rfl rfl) rfl ?_ | refine rl_val gw_none (ov_loadp 1 ag24 rfl rfl (vs := [_, _, _]) rfl rfl) rfl ?_ | refine rl_val gw_none (ov_loada 1 ag24 rfl rfl rfl (by assumption)) rfl ?_
      refine rl_callv gw_none goes70 rfl (fun w1 hp => l2Good_c u l (moveL xs m) _ _ zu zl (moveL_G hGxs hx hrb hmb.2.2.1) (SR.cast (hp.slsr 2 rfl (Sl.same encIntA2_len hsow (moveL_len xs m))) (moveL_len xs m).symm rfl)) rfl ?_
      refine rl_val gw_none (ov_not rfl) rfl ?_
      refine rl_nil ?_
      refine at_then ?_
      first | refine ct_dec rfl (fun h3 => ?_) (fun h3 => ?_) | refine ct_ndec rfl (fun h3 => ?_) (fun h3 => ?_) | refine ct_eq rfl (fun h3 => ?_) (fun h3 => ?_) | refine ct_ne rfl (fun h3 => ?_) (fun h3 => ?_) | refine ct_not rfl (fun h3 => ?_) (fun h3 => ?_) | refine ct_cond rfl (fun h3 => ?_) (fun h3 => ?_)
      ·
        refine ct_seq ?_
        refine ct_reg ?_
        refine rl_val gw_none (ov_build rfl (bu24_)) rfl ?_
        refine rl_store [_, _, _] sz24 rfl rfl rfl rfl rfl (Nat.le_of_ble_eq_true rfl) ?_
        refine rl_val gw_none (ov_assign rfl) rfl ?_
        refine rl_nil ?_
        refine at_then ?_
        refine ct_ret ?_
        refine at_then_ret ?_
        refine at_ret2 Try.results74 (ro_cell 3 ag24 rfl rfl rfl) (ro_tmp rfl) (fun w1 hp => ?_)
        unfold makeR
        first | (rw [okR_no (by unfold makeB; first | (simp_all; done) | (simp_all [inB]; done) | (simp_all [inB]; omega) | (simp_all; omega))]; exact RetSl.nil hp.ext0) | (rw [okR_yes (by unfold makeB; first | (simp_all; done) | (simp_all [inB]; done) | (simp_all [inB]; omega) | (simp_all; omega))]; exact RetSl.ownL 2 hp rfl (Sl.same encIntA2_len hsow (moveL_len xs m)) (moveL_len xs m).symm)
      ·
        refine ct_skip ?_
        refine at_then ?_
        refine ct_seq ?_
        refine ct_reg ?_
        first | refine rl_val gw_none (ov_loadall 1 ag24 rfl rfl rfl) rfl ?_ | refine rl_val gw_none (ov_loadp 1 ag24 rfl rfl (vs := [_, _, _]) rfl rfl) rfl ?_ | refine rl_val gw_none (ov_loada 1 ag24 rfl rfl rfl (by assumption)) rfl ?_
        refine rl_store [_, _, _] sz24 rfl rfl rfl rfl rfl (Nat.le_of_ble_eq_true rfl) ?_
        refine rl_val gw_none (ov_assign rfl) rfl ?_
        refine rl_nil ?_
        refine at_then ?_
        refine ct_ret ?_
        refine at_ret2 Try.results74 (ro_cell 3 ag24 rfl rfl rfl) (ro_tmp rfl) (fun w1 hp => ?_)
        unfold makeR
        first | (rw [okR_no (by unfold makeB; first | (simp_all; done) | (simp_all [inB]; done) | (simp_all [inB]; omega) | (simp_all; omega))]; exact RetSl.nil hp.ext0) | (rw [okR_yes (by unfold makeB; first | (simp_all; done) | (simp_all [inB]; done) | (simp_all [inB]; omega) | (simp_all; omega))]; exact RetSl.ownL 2 hp rfl (Sl.same encIntA2_len hsow (moveL_len xs m)) (moveL_len xs m).symm)
    ·
      refine ct_reg ?_
      refine rl_val gw_none (ov_field fo24_2 rfl) rfl ?_
      first | refine rl_val gw_none (ov_load 1 sc22 rfl rfl rfl) rfl ?_ | refine rl_val gw_none (ov_load 1 sc22 rfl rfl (by assumption)) rfl ?_
      refine rl_val gw_none (ov_field fo40_0 rfl) rfl ?_
      first | refine rl_val gw_none (ov_load 4 sc3 rfl rfl rfl) rfl ?_ | refine rl_val gw_none (ov_load 4 sc3 rfl rfl (by assumption)) rfl ?_
      first | refine rl_val gw_none (ov_ixa Try.underlying75 sz3 rfl rfl _ rfl (by omega)) rfl ?_ | refine rl_val gw_none (ov_ixa Try.underlying75 sz3 rfl rfl (m.rod.toNat) (by omega) (by omega)) rfl ?_ | refine rl_val gw_none (ov_ixa Try.underlying75 sz3 rfl rfl (0) (by omega) (by omega)) rfl ?_ | refine rl_val gw_none (ov_ixa Try.underlying75 sz3 rfl rfl (1) (by omega) (by omega)) rfl ?_
      first | refine rl_val gw_none (ov_load 0 sc3 rfl rfl rfl) rfl ?_ | refine rl_val gw_none (ov_load 0 sc3 rfl rfl (by assumption)) rfl ?_
      first | refine rl_val gw_none (ov_ixa Try.underlying75 sz3 rfl rfl _ rfl (by omega)) rfl ?_ | refine rl_val gw_none (ov_ixa Try.underlying75 sz3 rfl rfl (m.rod.toNat) (by omega) (by omega)) rfl ?_ | refine rl_val gw_none (ov_ixa Try.underlying75 sz3 rfl rfl (0) (by omega) (by omega)) rfl ?_ | refine rl_val gw_none (ov_ixa Try.underlying75 sz3 rfl rfl (1) (by omega) (by omega)) rfl ?_
      first | refine rl_val gw_none (ov_load 0 sc3 rfl rfl rfl) rfl ?_ | refine rl_val gw_none (ov_load 0 sc3 rfl rfl (by assumption)) rfl ?_
      refine rl_val gw_none (ov_field fo40_2 rfl) rfl ?_
      first | refine rl_val gw_none (ov_load 4 sc3 rfl rfl rfl) rfl ?_ | refine rl_val gw_none (ov_load 4 sc3 rfl rfl (by assumption)) rfl ?_
      refine rl_val gw_none (ov_add rfl rfl (by omega)) rfl ?_
      refine rl_val gw_none (ov_build rfl (bu75_0_1 _ _)) rfl ?_
      first | refine rl_val gw_none (ov_ix Try.underlying22 sz75 rfl rfl _ rfl (by omega)) rfl ?_ | refine rl_val gw_none (ov_ix Try.underlying22 sz75 rfl rfl (m.rod.toNat) (by omega) (by omega)) rfl ?_ | refine rl_val gw_none (ov_ix Try.underlying22 sz75 rfl rfl (0) (by omega) (by omega)) rfl ?_ | refine rl_val gw_none (ov_ix Try.underlying22 sz75 rfl rfl (1) (by omega) (by omega)) rfl ?_
      refine rl_store [_, _] sz75 rfl rfl rfl rfl rfl (by rw [List.length_append, flat_length encIntA2_len]; omega) ?_
      refine rl_mem (fun _ hq => hq.cong (congrArg (fun x => _ :: _ :: (_, _, x) :: _) (moveRod1 hx (by omega) _))) ?_
      refine rl_nil ?_
      refine at_then ?_
      refine ct_seq ?_
      refine ct_seq ?_
      refine ct_reg ?_
      first | refine rl_val gw_none (ov_loadall 1 ag24 rfl rfl rfl) rfl ?_ | refine rl_val gw_none (ov_loadp 1 ag24 rfl rfl (vs := [_, _, _]) rfl rfl) rfl ?_ | refine rl_val gw_none (ov_loada 1 ag24 rfl rfl rfl (by assumption)) rfl ?_
      refine rl_callv gw_none goes70 rfl (fun w1 hp => l2Good_c u l (moveL xs m) _ _ zu zl (moveL_G hGxs hx hrb hmb.2.2.1) (SR.cast (hp.slsr 2 rfl (Sl.same encIntA2_len hsow (moveL_len xs m))) (moveL_len xs m).symm rfl)) rfl ?_
      refine rl_val gw_none (ov_not rfl) rfl ?_
      refine rl_nil ?_
      refine at_then ?_
      first | refine ct_dec rfl (fun h4 => ?_) (fun h4 => ?_) | refine ct_ndec rfl (fun h4 => ?_) (fun h4 => ?_) | refine ct_eq rfl (fun h4 => ?_) (fun h4 => ?_) | refine ct_ne rfl (fun h4 => ?_) (fun h4 => ?_) | refine ct_not rfl (fun h4 => ?_) (fun h4 => ?_) | refine ct_cond rfl (fun h4 => ?_) (fun h4 => ?_)
      ·
        refine ct_seq ?_
        refine ct_reg ?_
        refine rl_val gw_none (ov_build rfl (bu24_)) rfl ?_
        refine rl_store [_, _, _] sz24 rfl rfl rfl rfl rfl (Nat.le_of_ble_eq_true rfl) ?_
        refine rl_val gw_none (ov_assign rfl) rfl ?_
        refine rl_nil ?_
        refine at_then ?_
        refine ct_ret ?_
        refine at_then_ret ?_
        refine at_ret2 Try.results74 (ro_cell 3 ag24 rfl rfl rfl) (ro_tmp rfl) (fun w1 hp => ?_)
        unfold makeR
        first | (rw [okR_no (by unfold makeB; first | (simp_all; done) | (simp_all [inB]; done) | (simp_all [inB]; omega) | (simp_all; omega))]; exact RetSl.nil hp.ext0) | (rw [okR_yes (by unfold makeB; first | (simp_all; done) | (simp_all [inB]; done) | (simp_all [inB]; omega) | (simp_all; omega))]; exact RetSl.ownL 2 hp rfl (Sl.same encIntA2_len hsow (moveL_len xs m)) (moveL_len xs m).symm)
      ·
        refine ct_skip ?_
        refine at_then ?_
        refine ct_seq ?_
        refine ct_reg ?_
        first | refine rl_val gw_none (ov_loadall 1 ag24 rfl rfl rfl) rfl ?_ | refine rl_val gw_none (ov_loadp 1 ag24 rfl rfl (vs := [_, _, _]) rfl rfl) rfl ?_ | refine rl_val gw_none (ov_loada 1 ag24 rfl rfl rfl (by assumption)) rfl ?_
        refine rl_store [_, _, _] sz24 rfl rfl rfl rfl rfl (Nat.le_of_ble_eq_true rfl) ?_
        refine rl_val gw_none (ov_assign rfl) rfl ?_
        refine rl_nil ?_
        refine at_then ?_
        refine ct_ret ?_
        refine at_ret2 Try.results74 (ro_cell 3 ag24 rfl rfl rfl) (ro_tmp rfl) (fun w1 hp => ?_)
        unfold makeR
        first | (rw [okR_no (by unfold makeB; first | (simp_all; done) | (simp_all [inB]; done) | (simp_all [inB]; omega) | (simp_all; omega))]; exact RetSl.nil hp.ext0) | (rw [okR_yes (by unfold makeB; first | (simp_all; done) | (simp_all [inB]; done) | (simp_all [inB]; omega) | (simp_all; omega))]; exact RetSl.ownL 2 hp rfl (Sl.same encIntA2_len hsow (moveL_len xs m)) (moveL_len xs m).symm)
end Go.Proofs.Ytaohanhgengicaa
