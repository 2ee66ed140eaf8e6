import Derived.Test.YtaohanhgengicaaTl
import Derived.KernelRfl
set_option linter.unusedVariables false
set_option linter.unusedSimpArgs false
namespace Go.Proofs.Ytaohanhgengicaa
open Go Go.RowKit K
theorem played_c (u : Int) (l : Int) (xs : List IntA2) (ms : List BeadMove) (vxs : Value) (vms : Value) (w : World) (zu : In64 u) (zl : In64 l) (hGxs : ∀ y ∈ xs, GIntA2 y) (hsxs : SR w 2 vxs xs.length (flat encIntA2 xs)) (hGms : ∀ y ∈ ms, GBeadMove y) (hsms : SR w 3 vms ms.length (flat encBeadMove ms)) (hf : frameB u l xs = true) (hmm : ms.all moveB = true) : Calls Try.prog 79 ([.agg (List.toArray (α := Value) [.int .i64 u, .int .i64 l, vxs]), vms]).toArray w (fun e w' => RetSl 75 2 (flat encIntA2 (playF u l xs ms).xs) (playF u l xs ms).xs.length (fun s => .tuple #[.agg [.int .i64 (playF u l xs ms).u, .int .i64 (playF u l xs ms).l, s].toArray, .bool (playF u l xs ms).ok]) w e w') := by
  obtain ⟨axs, capxs, rfl, hcapxs, hmaxxs⟩ := hsxs.slice
  have hlenxs := hsxs.len_le
  obtain ⟨ams, capms, rfl, hcapms, hmaxms⟩ := hsms.slice
  have hlenms := hsms.len_le
  have h8 := (frameB_ul hf).2.2.2
  have hl1 := (frameB_ul hf).2.2.1
  have hmat : ∀ {k : Nat} {m : BeadMove}, ms[k]? = some m → moveB m = true := fun h => List.all_eq_true.1 hmm _ (List.mem_iff_getElem?.2 ⟨_, h⟩)
  refine calls_ct Try.func79 Try.ntmps79 rfl rfl ?_
  refine ct_seq ?_
  refine ct_reg ?_
  refine rl_box rfl rfl (fun N1 => ?_)
  refine rl_alloc ze24 rfl (fun N2 => ?_)
  refine rl_val gw_none (ov_assign rfl) rfl ?_
  refine rl_nil ?_
  refine at_then ?_
  refine ct_seq ?_
  refine ct_reg ?_
  first | refine rl_val gw_none (ov_loadall 1 ag24 rfl rfl rfl) rfl ?_ | refine rl_val gw_none (ov_loadp 1 ag24 rfl rfl (vs := [_, _, _]) rfl rfl) rfl ?_ | refine rl_val gw_none (ov_loada 1 ag24 rfl rfl rfl (by assumption)) rfl ?_
  refine rl_callsl (ι := Nat × List Value) (fun i bo => .agg [.int .i64 u, .int .i64 l, sv bo (xs).length i.1].toArray) (fun i => flat encIntA2 (xs) ++ i.2) (fun i bo => Sl 2 bo (xs).length i.1 (flat encIntA2 (xs)) i.2) goes68 rfl (fun w1 hp => own_c u l xs _ _ zu zl hGxs (hsxs.ext hp.ext0) h8) rfl (fun iow boow hsow => ?_)
  refine rl_alloc ze24 rfl (fun N3 => ?_)
  refine rl_store [] sz24 rfl rfl rfl rfl rfl (Nat.le_of_ble_eq_true rfl) ?_
  refine rl_nil ?_
  refine at_then ?_
  refine ct_seq ?_
  refine ct_seq ?_
  refine ct_reg ?_
  refine rl_val gw_none (ov_move rfl) rfl ?_
  refine rl_val gw_none (ov_len Try.underlying46 rfl) rfl ?_
  refine rl_val gw_none (ov_move rfl) rfl ?_
  refine rl_nil ?_
  refine at_then ?_
  refine ct_block ?_
  refine ct_loopR (ι := Nat × List IntA2 × Option Nat × Nat × List Value) (fun p0 => [(15, .int .i64 p0.1)]) [(4, _), (6, _), (13, _), (14, _)] (fun p0 => [(some N3, 24, [.int .i64 u, .int .i64 l, sv p0.2.2.1 p0.2.1.length p0.2.2.2.1]), (p0.2.2.1, 75, flat encIntA2 p0.2.1 ++ p0.2.2.2.2), _]) (fun p0 => p0.1 ≤ ms.length ∧ playK u l xs ms p0.1 = some p0.2.1 ∧ frameB u l p0.2.1 = true ∧ Sl 2 p0.2.2.1 p0.2.1.length p0.2.2.2.1 (flat encIntA2 p0.2.1) p0.2.2.2.2) (fun p0 => ms.length - p0.1) ((0, xs, boow, iow.1, iow.2)) (Sub.cons rfl (Sub.cons rfl (Sub.cons rfl (Sub.cons rfl Sub.nil)))) (fun _ hp => (Hp.sub (Hp.pull (Hp.pull (Hp.pull hp 2 rfl) 2 rfl) 2 rfl) (List.sublist_append_left [_, _, _] _))) (by (repeat' (first | exact Sub.nil | refine Sub.cons ?_ ?_)); all_goals (first | rfl | exact lkInt rfl (by omega))) ⟨Nat.zero_le _, rfl, hf, hsow⟩ (fun p0 hp0 => ?_)
  obtain ⟨k, ys, bo, cap, pad⟩ := p0
  obtain ⟨hk, hpl, hfy, hsl⟩ := hp0
  dsimp only at hk hpl hfy hsl
  try dsimp only
  refine ct_seq ?_
  refine ct_reg ?_
  refine rl_val gw_none (ov_lss rfl rfl) rfl ?_
  refine rl_nil ?_
  refine at_then ?_
  refine ct_seq ?_
  first | refine ct_dec rfl (fun h1 => ?_) (fun h1 => ?_) | refine ct_ndec rfl (fun h1 => ?_) (fun h1 => ?_) | refine ct_eq rfl (fun h1 => ?_) (fun h1 => ?_) | refine ct_ne rfl (fun h1 => ?_) (fun h1 => ?_) | refine ct_not rfl (fun h1 => ?_) (fun h1 => ?_) | refine ct_cond rfl (fun h1 => ?_) (fun h1 => ?_)
  ·
    have hk2 : k < ms.length := by omega
    obtain ⟨b, o, rfl, hel⟩ := hsms.elem encBeadMove_len (by omega) hk2
    have hx := getLt hk2
    have hmv := hmat hx
    generalize ms[k] = m at *
    have hcx := hel k m hx
    refine ct_skip ?_
    refine at_then ?_
    refine ct_seq ?_
    refine ct_block ?_
    refine ct_seq ?_
    refine ct_reg ?_
    refine rl_val gw_none (ov_ix Try.underlying46 sz40 rfl rfl _ rfl (by omega)) rfl ?_
    first | refine rl_val gw_none (ov_loadaw ag40 rfl rfl (by assumption)) rfl ?_ | refine rl_val gw_none (ov_loadall 0 ag40 rfl rfl rfl) rfl ?_ | refine rl_val gw_none (ov_loadall 1 ag40 rfl rfl rfl) rfl ?_ | refine rl_val gw_none (ov_loadall 2 ag40 rfl rfl rfl) rfl ?_ | refine rl_val gw_none (ov_loadall 3 ag40 rfl rfl rfl) rfl ?_
    refine rl_alloc ze40 rfl (fun N4 => ?_)
    refine rl_store [] sz40 rfl rfl rfl rfl rfl (Nat.le_of_ble_eq_true rfl) ?_
    refine rl_nil ?_
    refine at_then ?_
    refine ct_seq ?_
    refine ct_reg ?_
    first | refine rl_val gw_none (ov_loadall 1 ag24 rfl rfl rfl) rfl ?_ | refine rl_val gw_none (ov_loadp 1 ag24 rfl rfl (vs := [_, _, _]) rfl rfl) rfl ?_ | refine rl_val gw_none (ov_loada 1 ag24 rfl rfl rfl (by assumption)) rfl ?_
    first | refine rl_val gw_none (ov_loadall 0 ag40 rfl rfl rfl) rfl ?_ | refine rl_val gw_none (ov_loadp 0 ag40 rfl rfl (vs := [_, _, _]) rfl rfl) rfl ?_ | refine rl_val gw_none (ov_loada 0 ag40 rfl rfl rfl (by assumption)) rfl ?_
    refine rl_callsl (ι := Nat × List Value) (fun i bo => .tuple #[.agg [.int .i64 (makeR u l ys m).u, .int .i64 (makeR u l ys m).l, sv bo (makeR u l ys m).xs.length i.1].toArray, .bool (makeR u l ys m).ok]) (fun i => flat encIntA2 (makeR u l ys m).xs ++ i.2) (fun i bo => Sl 2 bo (makeR u l ys m).xs.length i.1 (flat encIntA2 (makeR u l ys m).xs) i.2) goes76 rfl (fun w1 hp => moved_c u l ys m _ _ zu zl (frameB_G hfy) (hp.slsr 2 rfl hsl) hfy hmv) rfl (fun ifk bofk hsfk => ?_)
    refine rl_val gw_none (ov_move rfl) rfl ?_
    refine rl_val gw_none (ov_extract rfl rfl) rfl ?_
    refine rl_val gw_none (ov_extract rfl rfl) rfl ?_
    refine rl_alloc ze24 rfl (fun N5 => ?_)
    refine rl_store [] sz24 rfl rfl rfl rfl rfl (Nat.le_of_ble_eq_true rfl) ?_
    refine rl_val gw_none (ov_assign rfl) rfl ?_
    refine rl_nil ?_
    refine at_then ?_
    refine ct_seq ?_
    refine ct_seq ?_
    refine ct_reg ?_
    refine rl_val gw_none (ov_move rfl) rfl ?_
    refine rl_val gw_none (ov_not rfl) rfl ?_
    refine rl_nil ?_
    refine at_then ?_
    first | refine ct_dec rfl (fun h2 => ?_) (fun h2 => ?_) | refine ct_ndec rfl (fun h2 => ?_) (fun h2 => ?_) | refine ct_eq rfl (fun h2 => ?_) (fun h2 => ?_) | refine ct_ne rfl (fun h2 => ?_) (fun h2 => ?_) | refine ct_not rfl (fun h2 => ?_) (fun h2 => ?_) | refine ct_cond rfl (fun h2 => ?_) (fun h2 => ?_)
    ·
      refine ct_seq ?_
      refine ct_reg ?_
      refine rl_val gw_none (ov_build rfl (bu24_)) rfl ?_
      refine rl_store [_, _, _, _, _] sz24 rfl rfl rfl rfl rfl (Nat.le_of_ble_eq_true rfl) ?_
      refine rl_val gw_none (ov_assign rfl) rfl ?_
      refine rl_nil ?_
      refine at_then ?_
      refine ct_ret ?_
      refine at_then_ret ?_
      refine at_block_ret ?_
      refine at_then_ret ?_
      refine at_then_ret ?_
      refine at_block_ret ?_
      refine at_then_ret ?_
      refine at_ret2 Try.results79 (ro_cell 5 ag24 rfl rfl rfl) (ro_tmp rfl) (fun w1 hp => ?_)
      first | (rw [playF_no hpl hk2 hx (makeR_bad (by simpa using h2))]; exact RetSl.nil hp.ext0) | (rw [playF_yes hpl]; exact RetSl.own 4 hp rfl hsl)
    ·
      refine ct_skip ?_
      refine at_then ?_
      refine ct_reg ?_
      first | refine rl_val gw_none (ov_loadall 0 ag24 rfl rfl rfl) rfl ?_ | refine rl_val gw_none (ov_loadp 0 ag24 rfl rfl (vs := [_, _, _]) rfl rfl) rfl ?_ | refine rl_val gw_none (ov_loada 0 ag24 rfl rfl rfl (by assumption)) rfl ?_
      refine rl_store [_, _, _] sz24 rfl rfl rfl rfl rfl (Nat.le_of_ble_eq_true rfl) ?_
      refine rl_nil ?_
      refine at_block ?_
      refine at_then ?_
      refine ct_reg ?_
      refine rl_val gw_none (ov_add rfl rfl (by omega)) rfl ?_
      refine rl_val gw_none (ov_move rfl) rfl ?_
      refine rl_nil ?_
      have hmk := makeR_ok (show (makeR u l ys m).ok = true by simpa using h2)
      exact at_backR (k + 1, moveL ys m, bofk, ifk.1, ifk.2) ⟨hk2, playK_yes hpl hx hmk.1, (makeB_len hmk.1).2, by have hq := hsfk; rw [hmk.2] at hq; exact hq⟩ (by dsimp only; omega) (by (repeat' (first | exact Sub.nil | refine Sub.cons ?_ ?_)); all_goals (first | rfl | exact lkInt rfl (by omega))) (Sub.cons rfl (Sub.cons rfl (Sub.cons rfl (Sub.cons rfl Sub.nil)))) (fun _ hp => ((Hp.sub (Hp.pull (Hp.pull (Hp.pull hp 5 rfl) 2 rfl) 4 rfl) (List.sublist_append_left [_, _, _] _))).cong (by rw [hmk.2]; try rfl))
  ·
    have hke : k = ms.length := by omega
    subst hke
    refine ct_exit ?_
    refine at_then_exit ?_
    refine at_then_exit ?_
    refine at_block_hit ?_
    refine at_then ?_
    refine ct_seq ?_
    refine ct_reg ?_
    first | refine rl_val gw_none (ov_loadall 0 ag24 rfl rfl rfl) rfl ?_ | refine rl_val gw_none (ov_loadp 0 ag24 rfl rfl (vs := [_, _, _]) rfl rfl) rfl ?_ | refine rl_val gw_none (ov_loada 0 ag24 rfl rfl rfl (by assumption)) rfl ?_
    refine rl_store [_, _] sz24 rfl rfl rfl rfl rfl (Nat.le_of_ble_eq_true rfl) ?_
    refine rl_val gw_none (ov_assign rfl) rfl ?_
    refine rl_nil ?_
    refine at_then ?_
    refine ct_ret ?_
    refine at_ret2 Try.results79 (ro_cell 2 ag24 rfl rfl rfl) (ro_tmp rfl) (fun w1 hp => ?_)
    first | (rw [playF_no hpl hk2 hx (makeR_bad (by simpa using h2))]; exact RetSl.nil hp.ext0) | (rw [playF_yes hpl]; exact RetSl.own 1 hp rfl hsl)

theorem sPlayMoves_c (u : Int) (l : Int) (xs : List IntA2) (ms : List BeadMove) (vxs : Value) (vms : Value) (w : World) (zu : In64 u) (zl : In64 l) (hGxs : ∀ y ∈ xs, GIntA2 y) (hsxs : SR w 2 vxs xs.length (flat encIntA2 xs)) (hGms : ∀ y ∈ ms, GBeadMove y) (hsms : SR w 3 vms ms.length (flat encBeadMove ms)) : Calls Try.prog 32 ([.agg (List.toArray (α := Value) [.int .i64 u, .int .i64 l, vxs]), vms]).toArray w (fun e w' => RetSl 75 2 (flat encIntA2 (playR u l xs ms).xs) (playR u l xs ms).xs.length (fun s => .tuple #[.agg [.int .i64 (playR u l xs ms).u, .int .i64 (playR u l xs ms).l, s].toArray, .bool (playR u l xs ms).ok]) w e w') := by
  obtain ⟨axs, capxs, rfl, hcapxs, hmaxxs⟩ := hsxs.slice
  have hlenxs := hsxs.len_le
  obtain ⟨ams, capms, rfl, hcapms, hmaxms⟩ := hsms.slice
  have hlenms := hsms.len_le
  refine calls_ct Try.func32 Try.ntmps32 rfl rfl ?_
  refine ct_seq ?_
  refine ct_reg ?_
  refine rl_box rfl rfl (fun N1 => ?_)
  refine rl_alloc ze24 rfl (fun N2 => ?_)
  refine rl_val gw_none (ov_assign rfl) rfl ?_
  refine rl_nil ?_
  refine at_then ?_
  refine ct_seq ?_
  refine ct_seq ?_
  refine ct_reg ?_
  first | refine rl_val gw_none (ov_loadall 1 ag24 rfl rfl rfl) rfl ?_ | refine rl_val gw_none (ov_loadp 1 ag24 rfl rfl (vs := [_, _, _]) rfl rfl) rfl ?_ | refine rl_val gw_none (ov_loada 1 ag24 rfl rfl rfl (by assumption)) rfl ?_
  refine rl_callv gw_none goes70 rfl (fun w1 hp => l2Good_c u l xs _ _ zu zl hGxs (hsxs.ext hp.ext0)) rfl ?_
  refine rl_val gw_none (ov_not rfl) rfl ?_
  refine rl_val gw_none (ov_move rfl) rfl ?_
  refine rl_split (t := 12) rfl (fun g1 => ?_) (fun g1 => ?_)
  ·
    have g1' := g1
    try simp only [Bool.not_eq_true', Bool.not_eq_false', Bool.not_not, decide_eq_true_eq, decide_eq_false_iff_not, beq_iff_eq, beq_eq_false_iff_ne, bne_iff_ne, bne_eq_false_iff_eq, Bool.and_eq_true, Bool.or_eq_true, Bool.and_eq_false_iff, Bool.or_eq_false_iff, inB] at g1'
    refine rl_skip (gw_not rfl rfl g1) rfl ?_
    refine rl_skip (gw_not rfl rfl g1) rfl ?_
    refine rl_skip (gw_not rfl rfl g1) rfl ?_
    refine rl_val gw_none (ov_pick_t rfl g1 rfl) rfl ?_
    refine rl_nil ?_
    refine at_then ?_
    refine ct_true rfl rfl ?_
    refine ct_seq ?_
    refine ct_reg ?_
    refine rl_val gw_none (ov_build rfl (bu24_)) rfl ?_
    refine rl_store [] sz24 rfl rfl rfl rfl rfl (Nat.le_of_ble_eq_true rfl) ?_
    refine rl_val gw_none (ov_assign rfl) rfl ?_
    refine rl_nil ?_
    refine at_then ?_
    refine ct_ret ?_
    refine at_then_ret ?_
    refine at_ret2 Try.results32 (ro_cell 0 ag24 rfl rfl rfl) (ro_tmp rfl) (fun w1 hp => ?_)
    first | (rw [playR_no (by first | (simp_all; done) | omega)]; exact RetSl.nil hp.ext0) | (rw [playR_yes (by rw [hf, hmm]; rfl)]; first | (rw [playF_no hpl hk2 hx (makeR_bad (by simpa using h3))]; exact RetSl.nil hp.ext0) | (rw [playF_yes hpl]; exact RetSl.own 999 hp rfl hsl))
  ·
    have hf : frameB u l xs = true := by simpa using g1
    have h8 := (frameB_ul hf).2.2.2
    have hl1 := (frameB_ul hf).2.2.1
    have hnb := numF_all hf
    refine rl_val (gw_some rfl rfl g1) (ov_move rfl) rfl ?_
    refine rl_callv (gw_some rfl rfl g1) goes77 rfl (fun w1 hp => l4Good_c ms _ _ hGms (hsms.ext hp.ext0)) rfl ?_
    refine rl_val (gw_some rfl rfl g1) (ov_not rfl) rfl ?_
    refine rl_val gw_none (ov_pick_f rfl g1 rfl) rfl ?_
    refine rl_nil ?_
    refine at_then ?_
    first | refine ct_dec rfl (fun h1 => ?_) (fun h1 => ?_) | refine ct_ndec rfl (fun h1 => ?_) (fun h1 => ?_) | refine ct_eq rfl (fun h1 => ?_) (fun h1 => ?_) | refine ct_ne rfl (fun h1 => ?_) (fun h1 => ?_) | refine ct_not rfl (fun h1 => ?_) (fun h1 => ?_) | refine ct_cond rfl (fun h1 => ?_) (fun h1 => ?_)
    ·
      refine ct_seq ?_
      refine ct_reg ?_
      refine rl_val gw_none (ov_build rfl (bu24_)) rfl ?_
      refine rl_store [] sz24 rfl rfl rfl rfl rfl (Nat.le_of_ble_eq_true rfl) ?_
      refine rl_val gw_none (ov_assign rfl) rfl ?_
      refine rl_nil ?_
      refine at_then ?_
      refine ct_ret ?_
      refine at_then_ret ?_
      refine at_ret2 Try.results32 (ro_cell 0 ag24 rfl rfl rfl) (ro_tmp rfl) (fun w1 hp => ?_)
      first | (rw [playR_no (by first | (simp_all; done) | omega)]; exact RetSl.nil hp.ext0) | (rw [playR_yes (by rw [hf, hmm]; rfl)]; first | (rw [playF_no hpl hk2 hx (makeR_bad (by simpa using h3))]; exact RetSl.nil hp.ext0) | (rw [playF_yes hpl]; exact RetSl.own 999 hp rfl hsl))
    ·
      have hmm : movesB 60 ms = true := by simpa using h1
      refine ct_skip ?_
      refine at_then ?_
      refine ct_seq ?_
      refine ct_reg ?_
      first | refine rl_val gw_none (ov_loadall 1 ag24 rfl rfl rfl) rfl ?_ | refine rl_val gw_none (ov_loadp 1 ag24 rfl rfl (vs := [_, _, _]) rfl rfl) rfl ?_ | refine rl_val gw_none (ov_loada 1 ag24 rfl rfl rfl (by assumption)) rfl ?_
      refine rl_callsl (ι := Nat × List Value) (fun i bo => .agg [.int .i64 u, .int .i64 l, sv bo (xs).length i.1].toArray) (fun i => flat encIntA2 (xs) ++ i.2) (fun i bo => Sl 2 bo (xs).length i.1 (flat encIntA2 (xs)) i.2) goes64 rfl (fun w1 hp => l2Own_c u l xs _ _ zu zl hGxs (hsxs.ext hp.ext0) h8) rfl (fun iow boow hsow => ?_)
      refine rl_alloc ze24 rfl (fun N3 => ?_)
      refine rl_store [] sz24 rfl rfl rfl rfl rfl (Nat.le_of_ble_eq_true rfl) ?_
      refine rl_val gw_none (ov_assign rfl) rfl ?_
      refine rl_nil ?_
      refine at_then ?_
      refine ct_seq ?_
      refine ct_seq ?_
      refine ct_reg ?_
      refine rl_val gw_none (ov_assign rfl) rfl ?_
      refine rl_nil ?_
      refine at_then ?_
      refine ct_block ?_
      refine ct_loopR (ι := Nat × List IntA2 × Option Nat × Nat × List Value) (fun p0 => [(8, .int .i64 p0.1)]) [(1, _), (4, _), (6, _)] (fun p0 => [(some N3, 24, [.int .i64 u, .int .i64 l, sv p0.2.2.1 p0.2.1.length p0.2.2.2.1]), (p0.2.2.1, 75, flat encIntA2 p0.2.1 ++ p0.2.2.2.2), _]) (fun p0 => p0.1 ≤ ms.length ∧ playK u l xs ms p0.1 = some p0.2.1 ∧ frameB u l p0.2.1 = true ∧ Sl 2 p0.2.2.1 p0.2.1.length p0.2.2.2.1 (flat encIntA2 p0.2.1) p0.2.2.2.2) (fun p0 => ms.length - p0.1) ((0, xs, boow, iow.1, iow.2)) (Sub.cons rfl (Sub.cons rfl (Sub.cons rfl Sub.nil))) (fun _ hp => (Hp.sub (Hp.pull (Hp.pull (Hp.pull hp 2 rfl) 2 rfl) 2 rfl) (List.sublist_append_left [_, _, _] _))) (by (repeat' (first | exact Sub.nil | refine Sub.cons ?_ ?_)); all_goals (first | rfl | exact lkInt rfl (by omega))) ⟨Nat.zero_le _, rfl, hf, hsow⟩ (fun p0 hp0 => ?_)
      obtain ⟨k, ys, bo, cap, pad⟩ := p0
      obtain ⟨hk, hpl, hfy, hsl⟩ := hp0
      dsimp only at hk hpl hfy hsl
      try dsimp only
      refine ct_seq ?_
      refine ct_seq ?_
      refine ct_reg ?_
      refine rl_val gw_none (ov_move rfl) rfl ?_
      refine rl_val gw_none (ov_move rfl) rfl ?_
      refine rl_val gw_none (ov_len Try.underlying46 rfl) rfl ?_
      refine rl_val gw_none (ov_lss rfl rfl) rfl ?_
      refine rl_nil ?_
      refine at_then ?_
      first | refine ct_dec rfl (fun h2 => ?_) (fun h2 => ?_) | refine ct_ndec rfl (fun h2 => ?_) (fun h2 => ?_) | refine ct_eq rfl (fun h2 => ?_) (fun h2 => ?_) | refine ct_ne rfl (fun h2 => ?_) (fun h2 => ?_) | refine ct_not rfl (fun h2 => ?_) (fun h2 => ?_) | refine ct_cond rfl (fun h2 => ?_) (fun h2 => ?_)
      ·
        have hk2 : k < ms.length := by omega
        obtain ⟨b, o, rfl, hel⟩ := hsms.elem encBeadMove_len (by omega) hk2
        have hx := getLt hk2
        have hmv := movesB_at hmm hx
        generalize ms[k] = m at *
        have hcx := hel k m hx
        refine ct_skip ?_
        refine at_then ?_
        refine ct_seq ?_
        refine ct_block ?_
        refine ct_seq ?_
        refine ct_fl 10 [0, 1, 2, 3, 4, 5, 6, 7, 8, 9, 10] ⟨0, [5, 9], [9], [], [0, 4], []⟩ (fun q => ⟨0, [], fun _ => undef⟩) (by kernel_rfl) (by kernel_rfl) ?_
        refine qf_mark True.intro ?_
        first | refine qg_valm rfl rfl gw_none (ov_loadall 0 ag24 rfl rfl rfl) rfl ?_ | refine qg_valm rfl rfl gw_none (ov_loadp 0 ag24 rfl rfl (vs := [_, _, _]) rfl rfl) rfl ?_ | refine qg_valm rfl rfl gw_none (ov_loada 0 ag24 rfl rfl rfl (by assumption)) rfl ?_
        refine qf_step rfl ?_
        refine qg_val rfl gw_none (fun _ => (ov_move rfl)) rfl ?_
        refine qf_step rfl ?_
        refine qg_val rfl gw_none (fun _ => (ov_move rfl)) rfl ?_
        refine qf_step rfl ?_
        refine qg_val rfl gw_none (fun _ => (ov_ix Try.underlying46 sz40 rfl rfl _ rfl (by omega))) rfl ?_
        refine qf_step rfl ?_
        first | refine qg_valm rfl rfl gw_none (ov_loadaw ag40 rfl rfl (by assumption)) rfl ?_ | refine qg_valm rfl rfl gw_none (ov_loadall 0 ag40 rfl rfl rfl) rfl ?_ | refine qg_valm rfl rfl gw_none (ov_loadall 1 ag40 rfl rfl rfl) rfl ?_ | refine qg_valm rfl rfl gw_none (ov_loadall 2 ag40 rfl rfl rfl) rfl ?_ | refine qg_valm rfl rfl gw_none (ov_loadall 3 ag40 rfl rfl rfl) rfl ?_
        refine qf_step rfl ?_
        refine qg_callsl (ι := Nat × List Value) (fun i bo => .tuple #[.agg [.int .i64 (makeR u l ys m).u, .int .i64 (makeR u l ys m).l, sv bo (makeR u l ys m).xs.length i.1].toArray, .bool (makeR u l ys m).ok]) (fun i => flat encIntA2 (makeR u l ys m).xs ++ i.2) (fun i bo => Sl 2 bo (makeR u l ys m).xs.length i.1 (flat encIntA2 (makeR u l ys m).xs) i.2) rfl rfl rfl goes74 rfl (fun w1 hp => l4Make_c u l ys m _ _ zu zl (frameB_G hfy) (hp.slsr 1 rfl hsl) hfy hmv) rfl (fun ifk bofk hsfk => ?_)
        refine qf_step rfl ?_
        refine qg_val rfl gw_none (fun _ => (ov_move rfl)) rfl ?_
        refine qf_step rfl ?_
        refine qg_val rfl gw_none (fun _ => (ov_extract rfl rfl)) rfl ?_
        refine qf_step rfl ?_
        refine qg_val rfl gw_none (fun _ => (ov_extract rfl rfl)) rfl ?_
        refine qf_step rfl ?_
        refine qg_store [_] rfl rfl rfl True.intro sz24 rfl rfl rfl rfl rfl (Nat.le_of_ble_eq_true rfl) ?_
        refine qf_nil ?_
        refine rl_val gw_none (ov_assign rfl) rfl ?_
        refine rl_nil ?_
        refine at_then ?_
        refine ct_seq ?_
        refine ct_reg ?_
        refine rl_val gw_none (ov_move rfl) rfl ?_
        refine rl_val gw_none (ov_not rfl) rfl ?_
        refine rl_nil ?_
        refine at_then ?_
        first | refine ct_dec rfl (fun h3 => ?_) (fun h3 => ?_) | refine ct_ndec rfl (fun h3 => ?_) (fun h3 => ?_) | refine ct_eq rfl (fun h3 => ?_) (fun h3 => ?_) | refine ct_ne rfl (fun h3 => ?_) (fun h3 => ?_) | refine ct_not rfl (fun h3 => ?_) (fun h3 => ?_) | refine ct_cond rfl (fun h3 => ?_) (fun h3 => ?_)
        ·
          refine ct_seq ?_
          refine ct_reg ?_
          refine rl_val gw_none (ov_build rfl (bu24_)) rfl ?_
          refine rl_store [_, _, _] sz24 rfl rfl rfl rfl rfl (Nat.le_of_ble_eq_true rfl) ?_
          refine rl_val gw_none (ov_assign rfl) rfl ?_
          refine rl_nil ?_
          refine at_then ?_
          refine ct_ret ?_
          refine at_block_ret ?_
          refine at_then_ret ?_
          refine at_then_ret ?_
          refine at_block_ret ?_
          refine at_then_ret ?_
          refine at_ret2 Try.results32 (ro_cell 3 ag24 rfl rfl rfl) (ro_tmp rfl) (fun w1 hp => ?_)
          first | (rw [playR_no (by first | (simp_all; done) | omega)]; exact RetSl.nil hp.ext0) | (rw [playR_yes (by rw [hf, hmm]; rfl)]; first | (rw [playF_no hpl hk2 hx (makeR_bad (by simpa using h3))]; exact RetSl.nil hp.ext0) | (rw [playF_yes hpl]; exact RetSl.own 2 hp rfl hsl))
        ·
          refine ct_skip ?_
          refine at_block ?_
          refine at_then ?_
          refine ct_reg ?_
          refine rl_val gw_none (ov_move rfl) rfl ?_
          refine rl_val gw_none (ov_add rfl rfl (by omega)) rfl ?_
          refine rl_val gw_none (ov_assign rfl) rfl ?_
          refine rl_nil ?_
          have hmk := makeR_ok (show (makeR u l ys m).ok = true by simpa using h3)
          exact at_backR (k + 1, moveL ys m, bofk, ifk.1, ifk.2) ⟨hk2, playK_yes hpl hx hmk.1, (makeB_len hmk.1).2, by have hq := hsfk; rw [hmk.2] at hq; exact hq⟩ (by dsimp only; omega) (by (repeat' (first | exact Sub.nil | refine Sub.cons ?_ ?_)); all_goals (first | rfl | exact lkInt rfl (by omega))) (Sub.cons rfl (Sub.cons rfl (Sub.cons rfl Sub.nil))) (fun _ hp => ((Hp.sub (Hp.pull (Hp.pull (Hp.pull hp 3 rfl) 1 rfl) 2 rfl) (List.sublist_append_left [_, _, _] _))).cong (by rw [hmk.2]; try rfl))
      ·
        have hke : k = ms.length := by omega
        subst hke
        refine ct_exit ?_
        refine at_then_exit ?_
        refine at_then_exit ?_
        refine at_block_hit ?_
        refine at_then ?_
        refine ct_seq ?_
        refine ct_reg ?_
        first | refine rl_val gw_none (ov_loadall 0 ag24 rfl rfl rfl) rfl ?_ | refine rl_val gw_none (ov_loadp 0 ag24 rfl rfl (vs := [_, _, _]) rfl rfl) rfl ?_ | refine rl_val gw_none (ov_loada 0 ag24 rfl rfl rfl (by assumption)) rfl ?_
        refine rl_store [_, _] sz24 rfl rfl rfl rfl rfl (Nat.le_of_ble_eq_true rfl) ?_
        refine rl_val gw_none (ov_assign rfl) rfl ?_
        refine rl_nil ?_
        refine at_then ?_
        refine ct_ret ?_
        refine at_ret2 Try.results32 (ro_cell 2 ag24 rfl rfl rfl) (ro_tmp rfl) (fun w1 hp => ?_)
        first | (rw [playR_no (by first | (simp_all; done) | omega)]; exact RetSl.nil hp.ext0) | (rw [playR_yes (by rw [hf, hmm]; rfl)]; first | (rw [playF_no hpl hk2 hx (makeR_bad (by simpa using h3))]; exact RetSl.nil hp.ext0) | (rw [playF_yes hpl]; exact RetSl.own 1 hp rfl hsl))

theorem iPlayMoves_c (u : Int) (l : Int) (xs : List IntA2) (ms : List BeadMove) (vxs : Value) (vms : Value) (w : World) (zu : In64 u) (zl : In64 l) (hGxs : ∀ y ∈ xs, GIntA2 y) (hsxs : SR w 2 vxs xs.length (flat encIntA2 xs)) (hGms : ∀ y ∈ ms, GBeadMove y) (hsms : SR w 3 vms ms.length (flat encBeadMove ms)) : Calls Try.prog 34 ([.agg (List.toArray (α := Value) [.int .i64 u, .int .i64 l, vxs]), vms]).toArray w (fun e w' => RetSl 75 2 (flat encIntA2 (playR u l xs ms).xs) (playR u l xs ms).xs.length (fun s => .tuple #[.agg [.int .i64 (playR u l xs ms).u, .int .i64 (playR u l xs ms).l, s].toArray, .bool (playR u l xs ms).ok]) w e w') := by
  obtain ⟨axs, capxs, rfl, hcapxs, hmaxxs⟩ := hsxs.slice
  have hlenxs := hsxs.len_le
  obtain ⟨ams, capms, rfl, hcapms, hmaxms⟩ := hsms.slice
  have hlenms := hsms.len_le
  refine calls_ct Try.func34 Try.ntmps34 rfl rfl ?_
  refine ct_seq ?_
  refine ct_reg ?_
  refine rl_box rfl rfl (fun N1 => ?_)
  refine rl_alloc ze24 rfl (fun N2 => ?_)
  refine rl_val gw_none (ov_assign rfl) rfl ?_
  refine rl_nil ?_
  refine at_then ?_
  refine ct_seq ?_
  refine ct_seq ?_
  refine ct_reg ?_
  first | refine rl_val gw_none (ov_loadall 1 ag24 rfl rfl rfl) rfl ?_ | refine rl_val gw_none (ov_loadp 1 ag24 rfl rfl (vs := [_, _, _]) rfl rfl) rfl ?_ | refine rl_val gw_none (ov_loada 1 ag24 rfl rfl rfl (by assumption)) rfl ?_
  refine rl_callv gw_none goes56 rfl (fun w1 hp => iIsFrame_c u l xs _ _ zu zl hGxs (hsxs.ext hp.ext0)) rfl ?_
  refine rl_val gw_none (ov_not rfl) rfl ?_
  refine rl_val gw_none (ov_move rfl) rfl ?_
  refine rl_split (t := 9) rfl (fun g1 => ?_) (fun g1 => ?_)
  ·
    have g1' := g1
    try simp only [Bool.not_eq_true', Bool.not_eq_false', Bool.not_not, decide_eq_true_eq, decide_eq_false_iff_not, beq_iff_eq, beq_eq_false_iff_ne, bne_iff_ne, bne_eq_false_iff_eq, Bool.and_eq_true, Bool.or_eq_true, Bool.and_eq_false_iff, Bool.or_eq_false_iff, inB] at g1'
    refine rl_skip (gw_not rfl rfl g1) rfl ?_
    refine rl_skip (gw_not rfl rfl g1) rfl ?_
    refine rl_skip (gw_not rfl rfl g1) rfl ?_
    refine rl_val gw_none (ov_pick_t rfl g1 rfl) rfl ?_
    refine rl_nil ?_
    refine at_then ?_
    refine ct_true rfl rfl ?_
    refine ct_seq ?_
    refine ct_reg ?_
    refine rl_val gw_none (ov_build rfl (bu24_)) rfl ?_
    refine rl_store [] sz24 rfl rfl rfl rfl rfl (Nat.le_of_ble_eq_true rfl) ?_
    refine rl_val gw_none (ov_assign rfl) rfl ?_
    refine rl_nil ?_
    refine at_then ?_
    refine ct_ret ?_
    refine at_then_ret ?_
    refine at_ret2 Try.results34 (ro_cell 0 ag24 rfl rfl rfl) (ro_tmp rfl) (fun w1 hp => ?_)
    first | (rw [playR_no (by first | (simp_all; done) | omega)]; exact RetSl.nil hp.ext0) | (rw [playR_yes (by rw [hf, hmm]; rfl)]; exact RetSl.own 999 hp rfl hsfk)
  ·
    have hf : frameB u l xs = true := by simpa using g1
    have h8 := (frameB_ul hf).2.2.2
    have hl1 := (frameB_ul hf).2.2.1
    have hnb := numF_all hf
    refine rl_val (gw_some rfl rfl g1) (ov_move rfl) rfl ?_
    refine rl_callv (gw_some rfl rfl g1) goes78 rfl (fun w1 hp => areMoves_c ms _ _ hGms (hsms.ext hp.ext0)) rfl ?_
    refine rl_val (gw_some rfl rfl g1) (ov_not rfl) rfl ?_
    refine rl_val gw_none (ov_pick_f rfl g1 rfl) rfl ?_
    refine rl_nil ?_
    refine at_then ?_
    first | refine ct_dec rfl (fun h1 => ?_) (fun h1 => ?_) | refine ct_ndec rfl (fun h1 => ?_) (fun h1 => ?_) | refine ct_eq rfl (fun h1 => ?_) (fun h1 => ?_) | refine ct_ne rfl (fun h1 => ?_) (fun h1 => ?_) | refine ct_not rfl (fun h1 => ?_) (fun h1 => ?_) | refine ct_cond rfl (fun h1 => ?_) (fun h1 => ?_)
    ·
      refine ct_seq ?_
      refine ct_reg ?_
      refine rl_val gw_none (ov_build rfl (bu24_)) rfl ?_
      refine rl_store [] sz24 rfl rfl rfl rfl rfl (Nat.le_of_ble_eq_true rfl) ?_
      refine rl_val gw_none (ov_assign rfl) rfl ?_
      refine rl_nil ?_
      refine at_then ?_
      refine ct_ret ?_
      refine at_then_ret ?_
      refine at_ret2 Try.results34 (ro_cell 0 ag24 rfl rfl rfl) (ro_tmp rfl) (fun w1 hp => ?_)
      first | (rw [playR_no (by first | (simp_all; done) | omega)]; exact RetSl.nil hp.ext0) | (rw [playR_yes (by rw [hf, hmm]; rfl)]; exact RetSl.own 999 hp rfl hsfk)
    ·
      have hmm : movesB 60 ms = true := by simpa using h1
      refine ct_skip ?_
      refine at_then ?_
      refine ct_seq ?_
      refine ct_reg ?_
      first | refine rl_val gw_none (ov_loadall 1 ag24 rfl rfl rfl) rfl ?_ | refine rl_val gw_none (ov_loadp 1 ag24 rfl rfl (vs := [_, _, _]) rfl rfl) rfl ?_ | refine rl_val gw_none (ov_loada 1 ag24 rfl rfl rfl (by assumption)) rfl ?_
      refine rl_val gw_none (ov_move rfl) rfl ?_
      refine rl_callsl (ι := Nat × List Value) (fun i bo => .tuple #[.agg [.int .i64 (playF u l xs ms).u, .int .i64 (playF u l xs ms).l, sv bo (playF u l xs ms).xs.length i.1].toArray, .bool (playF u l xs ms).ok]) (fun i => flat encIntA2 (playF u l xs ms).xs ++ i.2) (fun i bo => Sl 2 bo (playF u l xs ms).xs.length i.1 (flat encIntA2 (playF u l xs ms).xs) i.2) goes79 rfl (fun w1 hp => played_c u l xs ms _ _ _ zu zl hGxs (hsxs.ext hp.ext0) hGms (hsms.ext hp.ext0) hf (by unfold movesB at hmm; simp at hmm; simpa using hmm.2)) rfl (fun ifk bofk hsfk => ?_)
      refine rl_val gw_none (ov_extract rfl rfl) rfl ?_
      refine rl_val gw_none (ov_extract rfl rfl) rfl ?_
      refine rl_store [_] sz24 rfl rfl rfl rfl rfl (Nat.le_of_ble_eq_true rfl) ?_
      refine rl_val gw_none (ov_assign rfl) rfl ?_
      refine rl_nil ?_
      refine at_then ?_
      refine ct_ret ?_
      refine at_ret2 Try.results34 (ro_cell 1 ag24 rfl rfl rfl) (ro_tmp rfl) (fun w1 hp => ?_)
      first | (rw [playR_no (by first | (simp_all; done) | omega)]; exact RetSl.nil hp.ext0) | (rw [playR_yes (by rw [hf, hmm]; rfl)]; exact RetSl.own 0 hp rfl hsfk)

theorem iMoveBeads_c (u : Int) (l : Int) (xs : List IntA2) (rd : Int) (pt : Int) (nn : Int) (vxs : Value) (w : World) (zu : In64 u) (zl : In64 l) (hGxs : ∀ y ∈ xs, GIntA2 y) (hsxs : SR w 2 vxs xs.length (flat encIntA2 xs)) (zrd : In64 rd) (zpt : In64 pt) (znn : In64 nn) : Calls Try.prog 30 ([.agg (List.toArray (α := Value) [.int .i64 u, .int .i64 l, vxs]), .agg (List.toArray (α := Value) [.int .i64 rd, .int .i64 pt, .int .i64 nn])]).toArray w (fun e w' => RetSl 75 2 (flat encIntA2 (moveR u l xs (⟨rd, pt, nn⟩ : BeadMove)).xs) (moveR u l xs (⟨rd, pt, nn⟩ : BeadMove)).xs.length (fun s => .tuple #[.agg [.int .i64 (moveR u l xs (⟨rd, pt, nn⟩ : BeadMove)).u, .int .i64 (moveR u l xs (⟨rd, pt, nn⟩ : BeadMove)).l, s].toArray, .bool (moveR u l xs (⟨rd, pt, nn⟩ : BeadMove)).ok]) w e w') := by
  obtain ⟨axs, capxs, rfl, hcapxs, hmaxxs⟩ := hsxs.slice
  have hlenxs := hsxs.len_le
  refine calls_ct Try.func30 Try.ntmps30 rfl rfl ?_
  refine ct_seq ?_
  refine ct_reg ?_
  refine rl_box rfl rfl (fun N1 => ?_)
  refine rl_box rfl rfl (fun N2 => ?_)
  refine rl_alloc ze24 rfl (fun N3 => ?_)
  refine rl_val gw_none (ov_assign rfl) rfl ?_
  refine rl_nil ?_
  refine at_then ?_
  refine ct_seq ?_
  refine ct_seq ?_
  refine ct_reg ?_
  first | refine rl_val gw_none (ov_loadall 2 ag24 rfl rfl rfl) rfl ?_ | refine rl_val gw_none (ov_loadp 2 ag24 rfl rfl (vs := [_, _, _]) rfl rfl) rfl ?_ | refine rl_val gw_none (ov_loada 2 ag24 rfl rfl rfl (by assumption)) rfl ?_
  refine rl_callv gw_none goes56 rfl (fun w1 hp => iIsFrame_c u l xs _ _ zu zl hGxs (hsxs.ext hp.ext0)) rfl ?_
  refine rl_val gw_none (ov_not rfl) rfl ?_
  refine rl_val gw_none (ov_move rfl) rfl ?_
  refine rl_split (t := 9) rfl (fun g1 => ?_) (fun g1 => ?_)
  ·
    have g1' := g1
    try simp only [Bool.not_eq_true', Bool.not_eq_false', Bool.not_not, decide_eq_true_eq, decide_eq_false_iff_not, beq_iff_eq, beq_eq_false_iff_ne, bne_iff_ne, bne_eq_false_iff_eq, Bool.and_eq_true, Bool.or_eq_true, Bool.and_eq_false_iff, Bool.or_eq_false_iff, inB] at g1'
    refine rl_skip (gw_not rfl rfl g1) rfl ?_
    refine rl_skip (gw_not rfl rfl g1) rfl ?_
    refine rl_skip (gw_not rfl rfl g1) rfl ?_
    refine rl_val gw_none (ov_pick_t rfl g1 rfl) rfl ?_
    refine rl_nil ?_
    refine at_then ?_
    refine ct_true rfl rfl ?_
    refine ct_seq ?_
    refine ct_reg ?_
    refine rl_val gw_none (ov_build rfl (bu24_)) rfl ?_
    refine rl_store [] sz24 rfl rfl rfl rfl rfl (Nat.le_of_ble_eq_true rfl) ?_
    refine rl_val gw_none (ov_assign rfl) rfl ?_
    refine rl_nil ?_
    refine at_then ?_
    refine ct_ret ?_
    refine at_then_ret ?_
    refine at_ret2 Try.results30 (ro_cell 0 ag24 rfl rfl rfl) (ro_tmp rfl) (fun w1 hp => ?_)
    first | (rw [moveR_no (by first | (simp_all; done) | omega)]; exact RetSl.nil hp.ext0) | (rw [moveR_yes (by rw [hf, hmv]; rfl)]; exact RetSl.own 999 hp rfl hsfk)
  ·
    have hf : frameB u l xs = true := by simpa using g1
    have h8 := (frameB_ul hf).2.2.2
    have hl1 := (frameB_ul hf).2.2.1
    have hnb := numF_all hf
    first | refine rl_val (gw_some rfl rfl g1) (ov_loadall 1 ag40 rfl rfl rfl) rfl ?_ | refine rl_val (gw_some rfl rfl g1) (ov_loadp 1 ag40 rfl rfl (vs := [_, _, _]) rfl rfl) rfl ?_ | refine rl_val (gw_some rfl rfl g1) (ov_loada 1 ag40 rfl rfl rfl (by assumption)) rfl ?_
    refine rl_callv (gw_some rfl rfl g1) goes75 rfl (fun w1 hp => iIsBeadMove_c (⟨rd, pt, nn⟩ : BeadMove) _) rfl ?_
    refine rl_val (gw_some rfl rfl g1) (ov_not rfl) rfl ?_
    refine rl_val gw_none (ov_pick_f rfl g1 rfl) rfl ?_
    refine rl_nil ?_
    refine at_then ?_
    first | refine ct_dec rfl (fun h1 => ?_) (fun h1 => ?_) | refine ct_ndec rfl (fun h1 => ?_) (fun h1 => ?_) | refine ct_eq rfl (fun h1 => ?_) (fun h1 => ?_) | refine ct_ne rfl (fun h1 => ?_) (fun h1 => ?_) | refine ct_not rfl (fun h1 => ?_) (fun h1 => ?_) | refine ct_cond rfl (fun h1 => ?_) (fun h1 => ?_)
    ·
      refine ct_seq ?_
      refine ct_reg ?_
      refine rl_val gw_none (ov_build rfl (bu24_)) rfl ?_
      refine rl_store [] sz24 rfl rfl rfl rfl rfl (Nat.le_of_ble_eq_true rfl) ?_
      refine rl_val gw_none (ov_assign rfl) rfl ?_
      refine rl_nil ?_
      refine at_then ?_
      refine ct_ret ?_
      refine at_then_ret ?_
      refine at_ret2 Try.results30 (ro_cell 0 ag24 rfl rfl rfl) (ro_tmp rfl) (fun w1 hp => ?_)
      first | (rw [moveR_no (by first | (simp_all; done) | omega)]; exact RetSl.nil hp.ext0) | (rw [moveR_yes (by rw [hf, hmv]; rfl)]; exact RetSl.own 999 hp rfl hsfk)
    ·
      have hmv : moveB (⟨rd, pt, nn⟩ : BeadMove) = true := by simpa using h1
      refine ct_skip ?_
      refine at_then ?_
      refine ct_seq ?_
      refine ct_reg ?_
      first | refine rl_val gw_none (ov_loadall 2 ag24 rfl rfl rfl) rfl ?_ | refine rl_val gw_none (ov_loadp 2 ag24 rfl rfl (vs := [_, _, _]) rfl rfl) rfl ?_ | refine rl_val gw_none (ov_loada 2 ag24 rfl rfl rfl (by assumption)) rfl ?_
      first | refine rl_val gw_none (ov_loadall 1 ag40 rfl rfl rfl) rfl ?_ | refine rl_val gw_none (ov_loadp 1 ag40 rfl rfl (vs := [_, _, _]) rfl rfl) rfl ?_ | refine rl_val gw_none (ov_loada 1 ag40 rfl rfl rfl (by assumption)) rfl ?_
      refine rl_callsl (ι := Nat × List Value) (fun i bo => .tuple #[.agg [.int .i64 (makeR u l xs (⟨rd, pt, nn⟩ : BeadMove)).u, .int .i64 (makeR u l xs (⟨rd, pt, nn⟩ : BeadMove)).l, sv bo (makeR u l xs (⟨rd, pt, nn⟩ : BeadMove)).xs.length i.1].toArray, .bool (makeR u l xs (⟨rd, pt, nn⟩ : BeadMove)).ok]) (fun i => flat encIntA2 (makeR u l xs (⟨rd, pt, nn⟩ : BeadMove)).xs ++ i.2) (fun i bo => Sl 2 bo (makeR u l xs (⟨rd, pt, nn⟩ : BeadMove)).xs.length i.1 (flat encIntA2 (makeR u l xs (⟨rd, pt, nn⟩ : BeadMove)).xs) i.2) goes76 rfl (fun w1 hp => moved_c u l xs (⟨rd, pt, nn⟩ : BeadMove) _ _ zu zl hGxs (hsxs.ext hp.ext0) hf hmv) rfl (fun ifk bofk hsfk => ?_)
      refine rl_val gw_none (ov_extract rfl rfl) rfl ?_
      refine rl_val gw_none (ov_extract rfl rfl) rfl ?_
      refine rl_store [_] sz24 rfl rfl rfl rfl rfl (Nat.le_of_ble_eq_true rfl) ?_
      refine rl_val gw_none (ov_assign rfl) rfl ?_
      refine rl_nil ?_
      refine at_then ?_
      refine ct_ret ?_
      refine at_ret2 Try.results30 (ro_cell 1 ag24 rfl rfl rfl) (ro_tmp rfl) (fun w1 hp => ?_)
      first | (rw [moveR_no (by first | (simp_all; done) | omega)]; exact RetSl.nil hp.ext0) | (rw [moveR_yes (by rw [hf, hmv]; rfl)]; exact RetSl.own 0 hp rfl hsfk)

theorem sMoveBeads_c (u : Int) (l : Int) (xs : List IntA2) (rd : Int) (pt : Int) (nn : Int) (vxs : Value) (w : World) (zu : In64 u) (zl : In64 l) (hGxs : ∀ y ∈ xs, GIntA2 y) (hsxs : SR w 2 vxs xs.length (flat encIntA2 xs)) (zrd : In64 rd) (zpt : In64 pt) (znn : In64 nn) : Calls Try.prog 28 ([.agg (List.toArray (α := Value) [.int .i64 u, .int .i64 l, vxs]), .agg (List.toArray (α := Value) [.int .i64 rd, .int .i64 pt, .int .i64 nn])]).toArray w (fun e w' => RetSl 75 2 (flat encIntA2 (moveR u l xs (⟨rd, pt, nn⟩ : BeadMove)).xs) (moveR u l xs (⟨rd, pt, nn⟩ : BeadMove)).xs.length (fun s => .tuple #[.agg [.int .i64 (moveR u l xs (⟨rd, pt, nn⟩ : BeadMove)).u, .int .i64 (moveR u l xs (⟨rd, pt, nn⟩ : BeadMove)).l, s].toArray, .bool (moveR u l xs (⟨rd, pt, nn⟩ : BeadMove)).ok]) w e w') := by
  obtain ⟨axs, capxs, rfl, hcapxs, hmaxxs⟩ := hsxs.slice
  have hlenxs := hsxs.len_le
  refine calls_ct Try.func28 Try.ntmps28 rfl rfl ?_
  refine ct_seq ?_
  refine ct_reg ?_
  refine rl_box rfl rfl (fun N1 => ?_)
  refine rl_box rfl rfl (fun N2 => ?_)
  refine rl_alloc ze24 rfl (fun N3 => ?_)
  refine rl_val gw_none (ov_assign rfl) rfl ?_
  refine rl_nil ?_
  refine at_then ?_
  refine ct_seq ?_
  refine ct_seq ?_
  refine ct_reg ?_
  first | refine rl_val gw_none (ov_loadall 2 ag24 rfl rfl rfl) rfl ?_ | refine rl_val gw_none (ov_loadp 2 ag24 rfl rfl (vs := [_, _, _]) rfl rfl) rfl ?_ | refine rl_val gw_none (ov_loada 2 ag24 rfl rfl rfl (by assumption)) rfl ?_
  refine rl_callv gw_none goes70 rfl (fun w1 hp => l2Good_c u l xs _ _ zu zl hGxs (hsxs.ext hp.ext0)) rfl ?_
  refine rl_val gw_none (ov_not rfl) rfl ?_
  refine rl_val gw_none (ov_move rfl) rfl ?_
  refine rl_split (t := 11) rfl (fun g1 => ?_) (fun g1 => ?_)
  ·
    have g1' := g1
    try simp only [Bool.not_eq_true', Bool.not_eq_false', Bool.not_not, decide_eq_true_eq, decide_eq_false_iff_not, beq_iff_eq, beq_eq_false_iff_ne, bne_iff_ne, bne_eq_false_iff_eq, Bool.and_eq_true, Bool.or_eq_true, Bool.and_eq_false_iff, Bool.or_eq_false_iff, inB] at g1'
    refine rl_skip (gw_not rfl rfl g1) rfl ?_
    refine rl_skip (gw_not rfl rfl g1) rfl ?_
    refine rl_skip (gw_not rfl rfl g1) rfl ?_
    refine rl_val gw_none (ov_pick_t rfl g1 rfl) rfl ?_
    refine rl_nil ?_
    refine at_then ?_
    refine ct_true rfl rfl ?_
    refine ct_seq ?_
    refine ct_reg ?_
    refine rl_val gw_none (ov_build rfl (bu24_)) rfl ?_
    refine rl_store [] sz24 rfl rfl rfl rfl rfl (Nat.le_of_ble_eq_true rfl) ?_
    refine rl_val gw_none (ov_assign rfl) rfl ?_
    refine rl_nil ?_
    refine at_then ?_
    refine ct_ret ?_
    refine at_then_ret ?_
    refine at_ret2 Try.results28 (ro_cell 0 ag24 rfl rfl rfl) (ro_tmp rfl) (fun w1 hp => ?_)
    first | (rw [moveR_no (by first | (simp_all; done) | omega)]; exact RetSl.nil hp.ext0) | (rw [moveR_yes (by rw [hf, hmv]; rfl)]; exact RetSl.own 999 hp rfl hsfk)
  ·
    have hf : frameB u l xs = true := by simpa using g1
    have h8 := (frameB_ul hf).2.2.2
    have hl1 := (frameB_ul hf).2.2.1
    have hnb := numF_all hf
    first | refine rl_val (gw_some rfl rfl g1) (ov_loadall 1 ag40 rfl rfl rfl) rfl ?_ | refine rl_val (gw_some rfl rfl g1) (ov_loadp 1 ag40 rfl rfl (vs := [_, _, _]) rfl rfl) rfl ?_ | refine rl_val (gw_some rfl rfl g1) (ov_loada 1 ag40 rfl rfl rfl (by assumption)) rfl ?_
    refine rl_callv (gw_some rfl rfl g1) goes73 rfl (fun w1 hp => l4One_c (⟨rd, pt, nn⟩ : BeadMove) _) rfl ?_
    refine rl_val (gw_some rfl rfl g1) (ov_not rfl) rfl ?_
    refine rl_val gw_none (ov_pick_f rfl g1 rfl) rfl ?_
    refine rl_nil ?_
    refine at_then ?_
    first | refine ct_dec rfl (fun h1 => ?_) (fun h1 => ?_) | refine ct_ndec rfl (fun h1 => ?_) (fun h1 => ?_) | refine ct_eq rfl (fun h1 => ?_) (fun h1 => ?_) | refine ct_ne rfl (fun h1 => ?_) (fun h1 => ?_) | refine ct_not rfl (fun h1 => ?_) (fun h1 => ?_) | refine ct_cond rfl (fun h1 => ?_) (fun h1 => ?_)
    ·
      refine ct_seq ?_
      refine ct_reg ?_
      refine rl_val gw_none (ov_build rfl (bu24_)) rfl ?_
      refine rl_store [] sz24 rfl rfl rfl rfl rfl (Nat.le_of_ble_eq_true rfl) ?_
      refine rl_val gw_none (ov_assign rfl) rfl ?_
      refine rl_nil ?_
      refine at_then ?_
      refine ct_ret ?_
      refine at_then_ret ?_
      refine at_ret2 Try.results28 (ro_cell 0 ag24 rfl rfl rfl) (ro_tmp rfl) (fun w1 hp => ?_)
      first | (rw [moveR_no (by first | (simp_all; done) | omega)]; exact RetSl.nil hp.ext0) | (rw [moveR_yes (by rw [hf, hmv]; rfl)]; exact RetSl.own 999 hp rfl hsfk)
    ·
      have hmv : moveB (⟨rd, pt, nn⟩ : BeadMove) = true := by simpa using h1
      refine ct_skip ?_
      refine at_then ?_
      refine ct_seq ?_
      refine ct_reg ?_
      first | refine rl_val gw_none (ov_loadall 2 ag24 rfl rfl rfl) rfl ?_ | refine rl_val gw_none (ov_loadp 2 ag24 rfl rfl (vs := [_, _, _]) rfl rfl) rfl ?_ | refine rl_val gw_none (ov_loada 2 ag24 rfl rfl rfl (by assumption)) rfl ?_
      first | refine rl_val gw_none (ov_loadall 1 ag40 rfl rfl rfl) rfl ?_ | refine rl_val gw_none (ov_loadp 1 ag40 rfl rfl (vs := [_, _, _]) rfl rfl) rfl ?_ | refine rl_val gw_none (ov_loada 1 ag40 rfl rfl rfl (by assumption)) rfl ?_
      refine rl_callsl (ι := Nat × List Value) (fun i bo => .tuple #[.agg [.int .i64 (makeR u l xs (⟨rd, pt, nn⟩ : BeadMove)).u, .int .i64 (makeR u l xs (⟨rd, pt, nn⟩ : BeadMove)).l, sv bo (makeR u l xs (⟨rd, pt, nn⟩ : BeadMove)).xs.length i.1].toArray, .bool (makeR u l xs (⟨rd, pt, nn⟩ : BeadMove)).ok]) (fun i => flat encIntA2 (makeR u l xs (⟨rd, pt, nn⟩ : BeadMove)).xs ++ i.2) (fun i bo => Sl 2 bo (makeR u l xs (⟨rd, pt, nn⟩ : BeadMove)).xs.length i.1 (flat encIntA2 (makeR u l xs (⟨rd, pt, nn⟩ : BeadMove)).xs) i.2) goes74 rfl (fun w1 hp => l4Make_c u l xs (⟨rd, pt, nn⟩ : BeadMove) _ _ zu zl hGxs (hsxs.ext hp.ext0) hf hmv) rfl (fun ifk bofk hsfk => ?_)
      refine rl_val gw_none (ov_move rfl) rfl ?_
      refine rl_val gw_none (ov_extract rfl rfl) rfl ?_
      refine rl_val gw_none (ov_extract rfl rfl) rfl ?_
      refine rl_alloc ze24 rfl (fun N4 => ?_)
      refine rl_store [] sz24 rfl rfl rfl rfl rfl (Nat.le_of_ble_eq_true rfl) ?_
      refine rl_val gw_none (ov_assign rfl) rfl ?_
      refine rl_nil ?_
      refine at_then ?_
      refine ct_seq ?_
      refine ct_reg ?_
      first | refine rl_val gw_none (ov_loadall 0 ag24 rfl rfl rfl) rfl ?_ | refine rl_val gw_none (ov_loadp 0 ag24 rfl rfl (vs := [_, _, _]) rfl rfl) rfl ?_ | refine rl_val gw_none (ov_loada 0 ag24 rfl rfl rfl (by assumption)) rfl ?_
      refine rl_val gw_none (ov_move rfl) rfl ?_
      refine rl_store [_, _] sz24 rfl rfl rfl rfl rfl (Nat.le_of_ble_eq_true rfl) ?_
      refine rl_val gw_none (ov_assign rfl) rfl ?_
      refine rl_nil ?_
      refine at_then ?_
      refine ct_ret ?_
      refine at_ret2 Try.results28 (ro_cell 2 ag24 rfl rfl rfl) (ro_tmp rfl) (fun w1 hp => ?_)
      first | (rw [moveR_no (by first | (simp_all; done) | omega)]; exact RetSl.nil hp.ext0) | (rw [moveR_yes (by rw [hf, hmv]; rfl)]; exact RetSl.own 1 hp rfl hsfk)
end Go.Proofs.Ytaohanhgengicaa
