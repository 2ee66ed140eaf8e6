import Derived.Test.YtaajkamfeaafpaaVd
import Derived.Test.YtaajkamfeaafpaaRd
import Derived.Test.YtaajkamfeaafpaaUh
import Derived.Test.YtaajkamfeaafpaaUj
import Derived.Test.YtaajkamfeaafpaaTm
import Derived.KernelRfl
set_option linter.unusedVariables false
set_option linter.unusedSimpArgs false
namespace Go.Proofs.Ytaajkamfeaafpaa
open Go Go.RowKit K
theorem rHas_c (l : List Int) (n : Int) (v : Value) (w : World) (hsr : SR w 1 v l.length (ints l)) : Calls Try.prog 41 ([v, .int .i64 n]).toArray w (fun e w' => e = .returned (.bool (decide (n ∈ l))) ∧ Ext w w') := by
  obtain ⟨a, cap, rfl, hcap, hmax⟩ := hsr.slice
  have hlen := hsr.len_le
  refine calls_ct Try.func41 Try.ntmps41 rfl rfl ?_
  refine ct_seq ?_
  refine ct_reg ?_
  refine rl_val gw_none (ov_assign rfl) rfl ?_
  refine rl_nil ?_
  refine at_then ?_
  refine ct_seq ?_
  refine ct_seq ?_
  refine ct_reg ?_
  refine rl_val gw_none (ov_assign rfl) rfl ?_
  refine rl_nil ?_
  refine at_then ?_
  refine ct_block ?_
  refine ct_loopR (ι := Nat) (fun k => [(5, .int .i64 k)]) [(0, _), (1, _)] (fun _ => _) (fun k => k ≤ l.length ∧ ∀ j x, j < k → l[j]? = some x → x ≠ n) (fun k => l.length - k) (0) (Sub.cons rfl (Sub.cons rfl Sub.nil)) (fun _ hq => hq) (by (repeat' (first | exact Sub.nil | refine Sub.cons ?_ ?_)); all_goals (first | rfl | exact lkInt rfl (by omega))) ⟨Nat.zero_le _, fun j x hj => absurd hj (Nat.not_lt_zero j)⟩ (fun k hi => ?_)
  obtain ⟨hk, hall⟩ := hi
  refine ct_seq ?_
  refine ct_seq ?_
  refine ct_reg ?_
  refine rl_val gw_none (ov_move rfl) rfl ?_
  refine rl_val gw_none (ov_move rfl) rfl ?_
  refine rl_val gw_none (ov_len Try.underlying34 rfl) rfl ?_
  refine rl_val gw_none (ov_lss rfl rfl) rfl ?_
  refine rl_nil ?_
  refine at_then ?_
  first | refine ct_dec rfl (fun h1 => ?_) (fun h1 => ?_) | refine ct_ndec rfl (fun h1 => ?_) (fun h1 => ?_) | refine ct_eq rfl (fun h1 => ?_) (fun h1 => ?_) | refine ct_ne rfl (fun h1 => ?_) (fun h1 => ?_) | refine ct_not rfl (fun h1 => ?_) (fun h1 => ?_) | refine ct_cond rfl (fun h1 => ?_) (fun h1 => ?_)
  ·
    have hk2 : k < l.length := by omega
    obtain ⟨b, o, rfl, hel⟩ := hsr.int hk2
    have hx := getLt hk2
    generalize l[k] = x at *
    have hcx := hel k x hx
    refine ct_skip ?_
    refine at_then ?_
    refine ct_seq ?_
    refine ct_block ?_
    refine ct_seq ?_
    refine ct_reg ?_
    refine rl_val gw_none (ov_move rfl) rfl ?_
    refine rl_val gw_none (ov_move rfl) rfl ?_
    first | refine rl_val gw_none (ov_ix Try.underlying34 sz3 rfl rfl _ rfl (by omega)) rfl ?_ | refine rl_val gw_none (ov_ix Try.underlying34 sz3 rfl rfl (k) (by omega) (by omega)) rfl ?_
    first | refine rl_val gw_none (ov_load 0 sc3 rfl rfl rfl) rfl ?_ | refine rl_val gw_none (ov_load 1 sc3 rfl rfl rfl) rfl ?_ | refine rl_val gw_none (ov_load 2 sc3 rfl rfl rfl) rfl ?_ | refine rl_val gw_none (ov_load 3 sc3 rfl rfl rfl) rfl ?_ | refine rl_val gw_none (ov_loadw sc3 rfl (by assumption)) rfl ?_ | refine rl_val gw_none (ov_load 0 sc3 rfl rfl (by assumption)) rfl ?_ | refine rl_val gw_none (ov_load 1 sc3 rfl rfl (by assumption)) rfl ?_ | refine rl_val gw_none (ov_load 2 sc3 rfl rfl (by assumption)) rfl ?_ | refine rl_val gw_none (ov_load 3 sc3 rfl rfl (by assumption)) rfl ?_
    refine rl_val gw_none (ov_move rfl) rfl ?_
    refine rl_val gw_none (ov_eql rfl rfl) rfl ?_
    refine rl_nil ?_
    refine at_then ?_
    first | refine ct_dec rfl (fun h2 => ?_) (fun h2 => ?_) | refine ct_ndec rfl (fun h2 => ?_) (fun h2 => ?_) | refine ct_eq rfl (fun h2 => ?_) (fun h2 => ?_) | refine ct_ne rfl (fun h2 => ?_) (fun h2 => ?_) | refine ct_not rfl (fun h2 => ?_) (fun h2 => ?_) | refine ct_cond rfl (fun h2 => ?_) (fun h2 => ?_)
    ·
      refine ct_seq ?_
      refine ct_reg ?_
      refine rl_val gw_none (ov_assign rfl) rfl ?_
      refine rl_nil ?_
      refine at_then ?_
      refine ct_ret ?_
      refine at_block_ret ?_
      refine at_then_ret ?_
      refine at_then_ret ?_
      refine at_block_ret ?_
      refine at_then_ret ?_
      refine at_ret1 Try.results41 (ro_tmp rfl) (fun w1 hp => ?_)
      refine ⟨?_, hp.ext0⟩
      first | (have hm : n ∈ l := List.mem_iff_getElem?.2 ⟨k, by rw [hx, h2]⟩; rw [decide_eq_true hm]; done) | (rw [decide_eq_false (fun hm => by obtain ⟨j, hj⟩ := List.mem_iff_getElem?.1 hm; exact hall j n (List.getElem?_eq_some_iff.1 hj).1 hj rfl)]; done)
    ·
      refine ct_skip ?_
      refine at_block ?_
      refine at_then ?_
      refine ct_reg ?_
      refine rl_val gw_none (ov_move rfl) rfl ?_
      refine rl_val gw_none (ov_add rfl rfl (by omega)) rfl ?_
      refine rl_val gw_none (ov_assign rfl) rfl ?_
      refine rl_nil ?_
      exact at_backR (k + 1) ⟨hk2, fun j y hj hy => by by_cases hjk : j = k; exact (by subst hjk; rw [hx] at hy; obtain rfl := Option.some.inj hy; omega); exact hall j y (by omega) hy⟩ (by first | exact True.intro | omega | (dsimp only; omega) | (dsimp only at *; omega)) (by (repeat' (first | exact Sub.nil | refine Sub.cons ?_ ?_)); all_goals (first | rfl | exact lkInt rfl (by omega))) (Sub.cons rfl (Sub.cons rfl Sub.nil)) (fun _ hq => hq)
  ·
    have hke : k = l.length := by omega
    subst hke
    refine ct_exit ?_
    refine at_then_exit ?_
    refine at_then_exit ?_
    refine at_block_hit ?_
    refine at_then ?_
    refine ct_seq ?_
    refine ct_reg ?_
    refine rl_val gw_none (ov_assign rfl) rfl ?_
    refine rl_nil ?_
    refine at_then ?_
    refine ct_ret ?_
    refine at_ret1 Try.results41 (ro_tmp rfl) (fun w1 hp => ?_)
    refine ⟨?_, hp.ext0⟩
    first | (have hm : n ∈ l := List.mem_iff_getElem?.2 ⟨k, by rw [hx, h2]⟩; rw [decide_eq_true hm]; done) | (rw [decide_eq_false (fun hm => by obtain ⟨j, hj⟩ := List.mem_iff_getElem?.1 hm; exact hall j n (List.getElem?_eq_some_iff.1 hj).1 hj rfl)]; done)

theorem rBig_c (a : Option Addr) (lc capc : Nat) (w : World) (hl : lc ≤ 9223372036854775807) : Calls Try.prog 32 ([.slice a lc capc]).toArray w (fun e w' => e = .returned (.bool (decide ((lc : Int) > 65536))) ∧ Ext w w') := by
  refine calls_ct Try.func32 Try.ntmps32 rfl rfl ?_
  refine ct_seq ?_
  refine ct_reg ?_
  refine rl_val gw_none (ov_assign rfl) rfl ?_
  refine rl_nil ?_
  refine at_then ?_
  refine ct_seq ?_
  refine ct_reg ?_
  refine rl_val gw_none (ov_move rfl) rfl ?_
  refine rl_val gw_none (ov_len Try.underlying45 rfl) rfl ?_
  refine rl_val gw_none (ov_gtr rfl rfl) rfl ?_
  refine rl_val gw_none (ov_assign rfl) rfl ?_
  refine rl_nil ?_
  refine at_then ?_
  refine ct_ret ?_
  refine at_ret1 Try.results32 (ro_tmp rfl) (fun w1 hp => ?_)
  exact ⟨rfl, hp.ext0⟩

theorem mins_y (ws : List Wood) (xs : List Repair) (r : Repair) (i : Nat) (vws vxs : Value) (w : World) (hGws : ∀ y ∈ ws, GWood y) (hsws : SR w 3 vws ws.length (flat encWood ws)) (hGxs : ∀ y ∈ xs, GRepair y) (hsxs : SR w 5 vxs xs.length (flat encRepair xs)) (hok : repairsB ws xs = true) (hr : xs[i]? = some r) (hz : In64 r.frame) :
    Calls Try.prog 40 [vws, vxs, .int .i64 r.frame].toArray w (fun e w' => e = .returned (.tuple #[.int .i64 (minR ws r), .bool true]) ∧ Ext w w') := by
  have h := iMinutesFor_c ws xs r.frame vws vxs w hGws hsws hGxs hsxs hz
  rw [res_self hok hr] at h
  exact h

theorem law_FnRepairs (cs : List Int) (vcs : Value) (w : World) (hGcs : ∀ x ∈ cs, 0 ≤ x ∧ x ≤ 255) (hscs : SR w 1 vcs cs.length (flat (fun i => [Value.int .u8 i]) cs)) : Calls Try.prog 6 ([vcs]).toArray w (fun e w' => e = .returned (.bool true) ∧ Ext w w') := by
  obtain ⟨a, capc, rfl, _, _⟩ := hscs.slice
  have hlenc := hscs.len_le
  have hcd := CodeOk.ofF hscs hGcs
  refine calls_ct Try.func6 Try.ntmps6 rfl rfl ?_
  refine ct_seq ?_
  refine ct_reg ?_
  refine rl_val gw_none (ov_assign rfl) rfl ?_
  refine rl_nil ?_
  refine at_then ?_
  refine ct_seq ?_
  refine ct_seq ?_
  refine ct_reg ?_
  refine rl_val gw_none (ov_move rfl) rfl ?_
  refine rl_callv gw_none goes32 rfl (fun w1 hp => rBig_c _ _ _ _ hlenc) rfl ?_
  refine rl_nil ?_
  refine at_then ?_
  first | refine ct_dec rfl (fun h1 => ?_) (fun h1 => ?_) | refine ct_ndec rfl (fun h1 => ?_) (fun h1 => ?_) | refine ct_eq rfl (fun h1 => ?_) (fun h1 => ?_) | refine ct_ne rfl (fun h1 => ?_) (fun h1 => ?_) | refine ct_not rfl (fun h1 => ?_) (fun h1 => ?_) | refine ct_cond rfl (fun h1 => ?_) (fun h1 => ?_)
  ·
    skip
    refine ct_seq ?_
    refine ct_reg ?_
    refine rl_val gw_none (ov_assign rfl) rfl ?_
    refine rl_nil ?_
    refine at_then ?_
    refine ct_ret ?_
    refine at_then_ret ?_
    refine at_ret1 Try.results6 (ro_tmp rfl) (fun w1 hp => ?_)
    refine ⟨?_, hp.ext0⟩
    first | rfl | (simp; done)
  ·
    refine ct_skip ?_
    refine at_then ?_
    refine ct_seq ?_
    refine ct_reg ?_
    refine rl_val gw_none (ov_move rfl) rfl ?_
    refine rl_calle (ι := (Option Nat × Nat × List Value × List Wood) × (Option Nat × Nat × List Value × List Repair) × Int) (fun q => .tuple #[sv q.1.1 q.1.2.2.2.length q.1.2.1, sv q.2.1.1 q.2.1.2.2.2.length q.2.1.2.1, .int .i64 q.2.2]) (fun q => [(q.1.1, 67, flat encWood q.1.2.2.2 ++ q.1.2.2.1), (q.2.1.1, 53, flat encRepair q.2.1.2.2.2 ++ q.2.1.2.2.1)]) (fun q => (Sl 3 q.1.1 q.1.2.2.2.length q.1.2.1 (flat encWood q.1.2.2.2) q.1.2.2.1 ∧ q.1.2.2.2.length ≤ 10 ∧ (∀ y ∈ q.1.2.2.2, GWood y)) ∧ (Sl 5 q.2.1.1 q.2.1.2.2.2.length q.2.1.2.1 (flat encRepair q.2.1.2.2.2) q.2.1.2.2.1 ∧ q.2.1.2.2.2.length ≤ 12 ∧ (∀ y ∈ q.2.1.2.2.2, GRepair y)) ∧ In64 q.2.2) goes33 rfl (fun w1 hp => DrawDaysNeeded_c _ _ _ _ (hcd.call hp (E := []) (by simp))) rfl (fun qd hqd => ?_)
    obtain ⟨⟨bw, cw, pw, ws⟩, ⟨br, cr, pr, xs⟩, mi⟩ := qd
    obtain ⟨⟨hslw, hw10, hGw⟩, ⟨hslr, hr12, hGr⟩, zmi⟩ := hqd
    dsimp only at hslw hw10 hGw hslr hr12 hGr zmi
    try dsimp only
    refine rl_val gw_none (ov_move rfl) rfl ?_
    refine rl_val gw_none (ov_extract rfl rfl) rfl ?_
    refine rl_val gw_none (ov_extract rfl rfl) rfl ?_
    refine rl_val gw_none (ov_extract rfl rfl) rfl ?_
    refine rl_val gw_none (ov_assign rfl) rfl ?_
    refine rl_val gw_none (ov_assign rfl) rfl ?_
    refine rl_val gw_none (ov_assign rfl) rfl ?_
    refine rl_nil ?_
    refine at_then ?_
    refine ct_seq ?_
    refine ct_reg ?_
    refine rl_val gw_none (ov_move rfl) rfl ?_
    refine rl_val gw_none (ov_move rfl) rfl ?_
    refine rl_val gw_none (ov_move rfl) rfl ?_
    refine rl_callsl (ι := Nat × List Value) (fun i bo => .tuple #[sv bo (daysR ws xs mi).length i.1, .bool (daysB ws xs mi)]) (fun i => ints (daysR ws xs mi) ++ i.2) (fun i bo => Sl 1 bo (daysR ws xs mi).length i.1 (ints (daysR ws xs mi)) i.2) goes34 rfl (fun w1 hp => iDaysNeeded_c ws xs mi _ _ _ hGw (hp.slsr 0 rfl hslw) hGr (hp.slsr 1 rfl hslr) zmi) rfl (fun iD1 boD1 hsD1 => ?_)
    refine rl_val gw_none (ov_move rfl) rfl ?_
    refine rl_val gw_none (ov_extract rfl rfl) rfl ?_
    refine rl_val gw_none (ov_extract rfl rfl) rfl ?_
    refine rl_val gw_none (ov_assign rfl) rfl ?_
    refine rl_val gw_none (ov_assign rfl) rfl ?_
    refine rl_nil ?_
    refine at_then ?_
    refine ct_seq ?_
    refine ct_seq ?_
    refine ct_reg ?_
    refine rl_val gw_none (ov_move rfl) rfl ?_
    refine rl_val gw_none (ov_move rfl) rfl ?_
    refine rl_val gw_none (ov_move rfl) rfl ?_
    refine rl_callsl (ι := Nat × List Value) (fun i bo => .tuple #[sv bo (daysR ws xs mi).length i.1, .bool (daysB ws xs mi)]) (fun i => ints (daysR ws xs mi) ++ i.2) (fun i bo => Sl 1 bo (daysR ws xs mi).length i.1 (ints (daysR ws xs mi)) i.2) goes35 rfl (fun w1 hp => sDaysNeeded_c ws xs mi _ _ _ hGw (hp.slsr 1 rfl hslw) hGr (hp.slsr 2 rfl hslr) zmi) rfl (fun iD2 boD2 hsD2 => ?_)
    refine rl_val gw_none (ov_move rfl) rfl ?_
    refine rl_val gw_none (ov_extract rfl rfl) rfl ?_
    refine rl_val gw_none (ov_extract rfl rfl) rfl ?_
    refine rl_val gw_none (ov_assign rfl) rfl ?_
    refine rl_val gw_none (ov_assign rfl) rfl ?_
    refine rl_nil ?_
    refine at_then ?_
    refine ct_seq ?_
    refine ct_reg ?_
    refine rl_val gw_none (ov_move rfl) rfl ?_
    refine rl_val gw_none (ov_move rfl) rfl ?_
    refine rl_val gw_none (ov_neb Try.underlying4 rfl rfl) rfl ?_
    refine rl_val gw_none (ov_move rfl) rfl ?_
    refine rl_split (t := 56) rfl (fun g1 => ?_) (fun g1 => ?_)
    ·
      exfalso; first | (simp at g1; omega) | (simp at g1; done) | (simp_all; done)
    ·
      refine rl_val (gw_some rfl rfl g1) (ov_move rfl) rfl ?_
      refine rl_val (gw_some rfl rfl g1) (ov_move rfl) rfl ?_
      refine rl_callv (gw_some rfl rfl g1) goes36 rfl (fun w1 hp => rInts_c _ _ _ _ (hp.slsr 1 rfl hsD1) (hp.slsr 0 rfl hsD2)) rfl ?_
      refine rl_val (gw_some rfl rfl g1) (ov_not rfl) rfl ?_
      refine rl_val gw_none (ov_pick_f rfl g1 rfl) rfl ?_
      refine rl_nil ?_
      refine at_then ?_
      refine ct_false rfl rfl ?_
      refine ct_skip ?_
      refine at_then ?_
      refine ct_seq ?_
      refine ct_reg ?_
      refine rl_val gw_none (ov_move rfl) rfl ?_
      refine rl_val gw_none (ov_move rfl) rfl ?_
      refine rl_callsl (ι := Nat × List Value) (fun i bo => .tuple #[sv bo (woR ws xs).length i.1, .bool (repairsB ws xs)]) (fun i => ints (woR ws xs) ++ i.2) (fun i bo => Sl 1 bo (woR ws xs).length i.1 (ints (woR ws xs)) i.2) goes37 rfl (fun w1 hp => iWorkOrder_c ws xs _ _ _ hGw (hp.slsr 2 rfl hslw) hGr (hp.slsr 3 rfl hslr)) rfl (fun iO1 boO1 hsO1 => ?_)
      refine rl_val gw_none (ov_move rfl) rfl ?_
      refine rl_val gw_none (ov_extract rfl rfl) rfl ?_
      refine rl_val gw_none (ov_extract rfl rfl) rfl ?_
      refine rl_val gw_none (ov_assign rfl) rfl ?_
      refine rl_val gw_none (ov_assign rfl) rfl ?_
      refine rl_nil ?_
      refine at_then ?_
      refine ct_seq ?_
      refine ct_seq ?_
      refine ct_reg ?_
      refine rl_val gw_none (ov_move rfl) rfl ?_
      refine rl_val gw_none (ov_move rfl) rfl ?_
      refine rl_callsl (ι := Nat × List Value) (fun i bo => .tuple #[sv bo (woR ws xs).length i.1, .bool (repairsB ws xs)]) (fun i => ints (woR ws xs) ++ i.2) (fun i bo => Sl 1 bo (woR ws xs).length i.1 (ints (woR ws xs)) i.2) goes38 rfl (fun w1 hp => sWorkOrder_c ws xs _ _ _ hGw (hp.slsr 3 rfl hslw) hGr (hp.slsr 4 rfl hslr)) rfl (fun iO2 boO2 hsO2 => ?_)
      refine rl_val gw_none (ov_move rfl) rfl ?_
      refine rl_val gw_none (ov_extract rfl rfl) rfl ?_
      refine rl_val gw_none (ov_extract rfl rfl) rfl ?_
      refine rl_val gw_none (ov_assign rfl) rfl ?_
      refine rl_val gw_none (ov_assign rfl) rfl ?_
      refine rl_nil ?_
      refine at_then ?_
      refine ct_seq ?_
      refine ct_reg ?_
      refine rl_val gw_none (ov_move rfl) rfl ?_
      refine rl_val gw_none (ov_move rfl) rfl ?_
      refine rl_val gw_none (ov_neb Try.underlying4 rfl rfl) rfl ?_
      refine rl_val gw_none (ov_move rfl) rfl ?_
      refine rl_split (t := 77) rfl (fun g2 => ?_) (fun g2 => ?_)
      ·
        exfalso; first | (simp at g2; omega) | (simp at g2; done) | (simp_all; done)
      ·
        refine rl_val (gw_some rfl rfl g2) (ov_move rfl) rfl ?_
        refine rl_val (gw_some rfl rfl g2) (ov_move rfl) rfl ?_
        refine rl_callv (gw_some rfl rfl g2) goes36 rfl (fun w1 hp => rInts_c _ _ _ _ (hp.slsr 1 rfl hsO1) (hp.slsr 0 rfl hsO2)) rfl ?_
        refine rl_val (gw_some rfl rfl g2) (ov_not rfl) rfl ?_
        refine rl_val gw_none (ov_pick_f rfl g2 rfl) rfl ?_
        refine rl_val gw_none (ov_move rfl) rfl ?_
        refine rl_val (gw_some rfl rfl rfl) (ov_move rfl) rfl ?_
        refine rl_val (gw_some rfl rfl rfl) (ov_move rfl) rfl ?_
        refine rl_val (gw_some rfl rfl rfl) (ov_move rfl) rfl ?_
        refine rl_callv (gw_some rfl rfl rfl) goes39 rfl (fun w1 hp => iAreRepairs_c ws xs _ _ _ hGw (hp.slsr 4 rfl hslw) hGr (hp.slsr 5 rfl hslr)) rfl ?_
        refine rl_val (gw_some rfl rfl rfl) (ov_neb Try.underlying4 rfl rfl) rfl ?_
        refine rl_val gw_none (ov_pick_f rfl rfl rfl) rfl ?_
        refine rl_nil ?_
        refine at_then ?_
        first | refine ct_dec rfl (fun h2 => ?_) (fun h2 => ?_) | refine ct_ndec rfl (fun h2 => ?_) (fun h2 => ?_) | refine ct_eq rfl (fun h2 => ?_) (fun h2 => ?_) | refine ct_ne rfl (fun h2 => ?_) (fun h2 => ?_) | refine ct_not rfl (fun h2 => ?_) (fun h2 => ?_) | refine ct_cond rfl (fun h2 => ?_) (fun h2 => ?_)
        ·
          exfalso; first | omega | exact absurd rfl h2 | (simp at h2; done) | (simp_all; done)
        ·
          refine ct_skip ?_
          refine at_then ?_
          refine ct_seq ?_
          refine ct_reg ?_
          refine rl_val gw_none (ov_move rfl) rfl ?_
          refine rl_val gw_none (ov_move rfl) rfl ?_
          refine rl_val gw_none (ov_move rfl) rfl ?_
          refine rl_callsl (ι := Nat × List Value) (fun i bo => .tuple #[sv bo (lateR ws xs mi).length i.1, .bool (daysB ws xs mi)]) (fun i => ints (lateR ws xs mi) ++ i.2) (fun i bo => Sl 1 bo (lateR ws xs mi).length i.1 (ints (lateR ws xs mi)) i.2) goes25 rfl (fun w1 hp => iLateFrames_c ws xs mi _ _ _ hGw (hp.slsr 4 rfl hslw) hGr (hp.slsr 5 rfl hslr) zmi) rfl (fun iF1 boF1 hsF1 => ?_)
          refine rl_val gw_none (ov_move rfl) rfl ?_
          refine rl_val gw_none (ov_extract rfl rfl) rfl ?_
          refine rl_val gw_none (ov_extract rfl rfl) rfl ?_
          refine rl_val gw_none (ov_assign rfl) rfl ?_
          refine rl_val gw_none (ov_assign rfl) rfl ?_
          refine rl_nil ?_
          refine at_then ?_
          refine ct_seq ?_
          refine ct_seq ?_
          refine ct_reg ?_
          refine rl_val gw_none (ov_move rfl) rfl ?_
          refine rl_val gw_none (ov_move rfl) rfl ?_
          refine rl_val gw_none (ov_move rfl) rfl ?_
          refine rl_callsl (ι := Nat × List Value) (fun i bo => .tuple #[sv bo (lateR ws xs mi).length i.1, .bool (daysB ws xs mi)]) (fun i => ints (lateR ws xs mi) ++ i.2) (fun i bo => Sl 1 bo (lateR ws xs mi).length i.1 (ints (lateR ws xs mi)) i.2) goes23 rfl (fun w1 hp => sLateFrames_c ws xs mi _ _ _ hGw (hp.slsr 5 rfl hslw) hGr (hp.slsr 6 rfl hslr) zmi) rfl (fun iF2 boF2 hsF2 => ?_)
          refine rl_val gw_none (ov_move rfl) rfl ?_
          refine rl_val gw_none (ov_extract rfl rfl) rfl ?_
          refine rl_val gw_none (ov_extract rfl rfl) rfl ?_
          refine rl_val gw_none (ov_assign rfl) rfl ?_
          refine rl_val gw_none (ov_assign rfl) rfl ?_
          refine rl_nil ?_
          refine at_then ?_
          refine ct_seq ?_
          refine ct_reg ?_
          refine rl_val gw_none (ov_move rfl) rfl ?_
          refine rl_val gw_none (ov_move rfl) rfl ?_
          refine rl_val gw_none (ov_neb Try.underlying4 rfl rfl) rfl ?_
          refine rl_val gw_none (ov_move rfl) rfl ?_
          refine rl_split (t := 107) rfl (fun g3 => ?_) (fun g3 => ?_)
          ·
            exfalso; first | (simp at g3; omega) | (simp at g3; done) | (simp_all; done)
          ·
            refine rl_val (gw_some rfl rfl g3) (ov_move rfl) rfl ?_
            refine rl_val (gw_some rfl rfl g3) (ov_move rfl) rfl ?_
            refine rl_val (gw_some rfl rfl g3) (ov_neb Try.underlying4 rfl rfl) rfl ?_
            refine rl_val gw_none (ov_pick_f rfl g3 rfl) rfl ?_
            refine rl_val gw_none (ov_move rfl) rfl ?_
            refine rl_split (t := 112) rfl (fun g4 => ?_) (fun g4 => ?_)
            ·
              exfalso; first | (simp at g4; omega) | (simp at g4; done) | (simp_all; done)
            ·
              refine rl_val (gw_some rfl rfl g4) (ov_move rfl) rfl ?_
              refine rl_val (gw_some rfl rfl g4) (ov_move rfl) rfl ?_
              refine rl_callv (gw_some rfl rfl g4) goes36 rfl (fun w1 hp => rInts_c _ _ _ _ (hp.slsr 1 rfl hsF1) (hp.slsr 0 rfl hsF2)) rfl ?_
              refine rl_val (gw_some rfl rfl g4) (ov_not rfl) rfl ?_
              refine rl_val gw_none (ov_pick_f rfl g4 rfl) rfl ?_
              refine rl_nil ?_
              refine at_then ?_
              refine ct_false rfl rfl ?_
              refine ct_skip ?_
              refine at_then ?_
              refine ct_seq ?_
              refine ct_reg ?_
              refine rl_val gw_none (ov_assign rfl) rfl ?_
              refine rl_nil ?_
              refine at_then ?_
              refine ct_seq ?_
              refine ct_seq ?_
              refine ct_reg ?_
              refine rl_val gw_none (ov_assign rfl) rfl ?_
              refine rl_nil ?_
              refine at_then ?_
              refine ct_cutTS (ι := Int) (fun sm => [(18, .int .i64 sm)]) [(0, _), (5, _), (6, _)] _ (fun sm => (daysB ws xs mi = true → sm = sumM ws xs xs.length)) (Sub.cons rfl (Sub.cons rfl (Sub.cons rfl Sub.nil))) (fun _ hq => hq) ?_ (fun sm hsm => ?_)
              ·
                refine ct_block ?_
                refine ct_loopR (ι := Nat) (fun k => [(18, .int .i64 (sumM ws xs k)), (19, .int .i64 k)]) [(0, _), (3, _), (4, _), (5, _), (6, _), (7, _), (10, _), (14, _)] (fun _ => _) (fun k => k ≤ xs.length) (fun k => xs.length - k) (0) (Sub.cons rfl (Sub.cons rfl (Sub.cons rfl (Sub.cons rfl (Sub.cons rfl (Sub.cons rfl (Sub.cons rfl (Sub.cons rfl Sub.nil)))))))) (fun _ hq => hq) (by (repeat' (first | exact Sub.nil | refine Sub.cons ?_ ?_)); all_goals (first | rfl | exact lkInt rfl (by omega))) (by first | exact True.intro | omega | (dsimp only; omega) | (dsimp only at *; omega)) (fun k hk => ?_)
                refine ct_seq ?_
                refine ct_seq ?_
                refine ct_reg ?_
                refine rl_val gw_none (ov_move rfl) rfl ?_
                refine rl_val gw_none (ov_move rfl) rfl ?_
                refine rl_val gw_none (ov_len Try.underlying37 rfl) rfl ?_
                refine rl_val gw_none (ov_lss rfl rfl) rfl ?_
                refine rl_val gw_none (ov_move rfl) rfl ?_
                refine rl_split (t := 122) rfl (fun g5 => ?_) (fun g5 => ?_)
                ·
                  skip
                  refine rl_val (gw_some rfl rfl g5) (ov_move rfl) rfl ?_
                  refine rl_val gw_none (ov_pick_t rfl g5 rfl) rfl ?_
                  refine rl_nil ?_
                  refine at_then ?_
                  first | refine ct_dec rfl (fun h3 => ?_) (fun h3 => ?_) | refine ct_ndec rfl (fun h3 => ?_) (fun h3 => ?_) | refine ct_eq rfl (fun h3 => ?_) (fun h3 => ?_) | refine ct_ne rfl (fun h3 => ?_) (fun h3 => ?_) | refine ct_not rfl (fun h3 => ?_) (fun h3 => ?_) | refine ct_cond rfl (fun h3 => ?_) (fun h3 => ?_)
                  ·
                    have hB : daysB ws xs mi = true := h3
                    have hk2 : k < xs.length := by simp at g5; omega
                    have hok : repairsB ws xs = true := (daysB_ok hB).1
                    have hM := (daysB_ok hB).2
                    obtain ⟨b1, rfl⟩ := slSome hslr (by omega)
                    have hx := getLt hk2
                    have hzr : In64 (xs[k]).frame := (hGr _ (List.getElem_mem hk2)).1
                    have hxm := List.getElem_mem hk2
                    generalize xs[k] = r at *
                    have hmr := minR_bound (repairs_woods hok).1 (repairB_at hok hx)
                    have hsb := sumM_bdX hok k
                    have hss := sumM_succ (ws := ws) hx
                    have hwl := woR_length hok
                    have hdl : (daysR ws xs mi).length = xs.length := by rw [daysR_yes hB, dayL_len]
                    refine ct_skip ?_
                    refine at_then ?_
                    refine ct_seq ?_
                    refine ct_block ?_
                    refine ct_seq ?_
                    refine ct_reg ?_
                    refine rl_val gw_none (ov_move rfl) rfl ?_
                    refine rl_val gw_none (ov_move rfl) rfl ?_
                    refine rl_val gw_none (ov_move rfl) rfl ?_
                    refine rl_val gw_none (ov_move rfl) rfl ?_
                    first | refine rl_val gw_none (ov_ix Try.underlying37 sz53 rfl rfl _ rfl (by omega)) rfl ?_ | refine rl_val gw_none (ov_ix Try.underlying37 sz53 rfl rfl (k) (by omega) (by omega)) rfl ?_ | refine rl_val gw_none (ov_ix Try.underlying37 sz53 rfl rfl (j) (by omega) (by omega)) rfl ?_ | refine rl_val gw_none (ov_ix Try.underlying37 sz53 rfl rfl (xs.length - 1) (by omega) (by omega)) rfl ?_
                    refine rl_val gw_none (ov_field fo53_0 rfl) rfl ?_
                    refine rl_val gw_none (ov_load 7 sc3 rfl rfl (flatGetG encRepair_len (f := 0) hx rfl _)) rfl ?_
                    refine rl_callv gw_none goes40 rfl (fun w1 hp => mins_y ws xs r k _ _ _ hGw (hp.slsr 6 rfl hslw) hGr (hp.slsr 7 rfl hslr) hok hx hzr) rfl ?_
                    refine rl_val gw_none (ov_move rfl) rfl ?_
                    refine rl_val gw_none (ov_extract rfl rfl) rfl ?_
                    refine rl_val gw_none (ov_extract rfl rfl) rfl ?_
                    refine rl_val gw_none (ov_assign rfl) rfl ?_
                    refine rl_val gw_none (ov_assign rfl) rfl ?_
                    refine rl_nil ?_
                    refine at_then ?_
                    refine ct_seq ?_
                    refine ct_seq ?_
                    refine ct_reg ?_
                    refine rl_val gw_none (ov_move rfl) rfl ?_
                    refine rl_val gw_none (ov_not rfl) rfl ?_
                    refine rl_nil ?_
                    refine at_then ?_
                    first | refine ct_dec rfl (fun h4 => ?_) (fun h4 => ?_) | refine ct_ndec rfl (fun h4 => ?_) (fun h4 => ?_) | refine ct_eq rfl (fun h4 => ?_) (fun h4 => ?_) | refine ct_ne rfl (fun h4 => ?_) (fun h4 => ?_) | refine ct_not rfl (fun h4 => ?_) (fun h4 => ?_) | refine ct_cond rfl (fun h4 => ?_) (fun h4 => ?_)
                    ·
                      exfalso; first | omega | exact absurd rfl h4 | (simp at h4; done) | (simp_all; done)
                    ·
                      refine ct_skip ?_
                      refine at_then ?_
                      refine ct_seq ?_
                      refine ct_reg ?_
                      refine rl_val gw_none (ov_move rfl) rfl ?_
                      refine rl_val gw_none (ov_move rfl) rfl ?_
                      refine rl_val gw_none (ov_add rfl rfl (by omega)) rfl ?_
                      refine rl_val gw_none (ov_assign rfl) rfl ?_
                      refine rl_nil ?_
                      refine at_then ?_
                      refine ct_seq ?_
                      refine ct_reg ?_
                      refine rl_val gw_none (ov_assign rfl) rfl ?_
                      refine rl_nil ?_
                      refine at_then ?_
                      refine ct_block ?_
                      refine ct_loopR (ι := Nat) (fun j => [(22, .int .i64 j)]) [(0, _), (3, _), (4, _), (5, _), (6, _), (7, _), (10, _), (14, _), (18, _), (19, _)] (fun _ => _) (fun j => j ≤ xs.length) (fun j => xs.length - j) (0) (Sub.cons rfl (Sub.cons rfl (Sub.cons rfl (Sub.cons rfl (Sub.cons rfl (Sub.cons rfl (Sub.cons rfl (Sub.cons rfl (Sub.cons rfl (Sub.cons rfl Sub.nil)))))))))) (fun _ hq => hq) (by (repeat' (first | exact Sub.nil | refine Sub.cons ?_ ?_)); all_goals (first | rfl | exact lkInt rfl (by omega))) (by first | exact True.intro | omega | (dsimp only; omega) | (dsimp only at *; omega)) (fun j hj => ?_)
                      refine ct_seq ?_
                      refine ct_seq ?_
                      refine ct_reg ?_
                      refine rl_val gw_none (ov_move rfl) rfl ?_
                      refine rl_val gw_none (ov_move rfl) rfl ?_
                      refine rl_val gw_none (ov_len Try.underlying34 rfl) rfl ?_
                      refine rl_val gw_none (ov_lss rfl rfl) rfl ?_
                      refine rl_val gw_none (ov_move rfl) rfl ?_
                      refine rl_split (t := 147) rfl (fun g6 => ?_) (fun g6 => ?_)
                      ·
                        have hj2 : j < xs.length := by simp at g6; omega
                        obtain ⟨b2, rfl⟩ := slSome hsO1 (by omega)
                        obtain ⟨b3, rfl⟩ := slSome hsD1 (by omega)
                        have hj3 : j < (ordL ws xs).length := by rw [ordL_len]; exact hj2
                        have hy := getLt hj3
                        have hym := ordL_mem (List.getElem_mem hj3)
                        generalize (ordL ws xs)[j] = y at *
                        have hwg := woR_get hok hy
                        have hdg : (daysR ws xs mi)[j]? = some (dayV ws (ordL ws xs) mi j) := by rw [daysR_yes hB]; exact dayL_get hj2
                        refine rl_val (gw_some rfl rfl g6) (ov_move rfl) rfl ?_
                        refine rl_val (gw_some rfl rfl g6) (ov_move rfl) rfl ?_
                        refine rl_val (gw_some rfl rfl g6) (ov_len Try.underlying34 rfl) rfl ?_
                        refine rl_val (gw_some rfl rfl g6) (ov_lss rfl rfl) rfl ?_
                        refine rl_val gw_none (ov_pick_t rfl g6 rfl) rfl ?_
                        refine rl_nil ?_
                        refine at_then ?_
                        first | refine ct_dec rfl (fun h5 => ?_) (fun h5 => ?_) | refine ct_ndec rfl (fun h5 => ?_) (fun h5 => ?_) | refine ct_eq rfl (fun h5 => ?_) (fun h5 => ?_) | refine ct_ne rfl (fun h5 => ?_) (fun h5 => ?_) | refine ct_not rfl (fun h5 => ?_) (fun h5 => ?_) | refine ct_cond rfl (fun h5 => ?_) (fun h5 => ?_)
                        ·
                          skip
                          refine ct_skip ?_
                          refine at_then ?_
                          refine ct_seq ?_
                          refine ct_block ?_
                          refine ct_seq ?_
                          refine ct_dr 29 (by kernel_rfl) (by kernel_rfl) ?_
                          refine ql_val gw_none (ov_move rfl) rfl ?_
                          refine ql_val gw_none (ov_move rfl) rfl ?_
                          first | refine ql_val gw_none (ov_ix Try.underlying34 sz3 rfl rfl _ rfl (by omega)) rfl ?_ | refine ql_val gw_none (ov_ix Try.underlying34 sz3 rfl rfl (k) (by omega) (by omega)) rfl ?_ | refine ql_val gw_none (ov_ix Try.underlying34 sz3 rfl rfl (j) (by omega) (by omega)) rfl ?_ | refine ql_val gw_none (ov_ix Try.underlying34 sz3 rfl rfl (xs.length - 1) (by omega) (by omega)) rfl ?_
                          refine ql_val gw_none (ov_load 3 sc3 rfl rfl (intsAtP hwg _)) rfl ?_
                          refine ql_val gw_none (ov_move rfl) rfl ?_
                          refine ql_val gw_none (ov_move rfl) rfl ?_
                          first | refine ql_val gw_none (ov_ix Try.underlying37 sz53 rfl rfl _ rfl (by omega)) rfl ?_ | refine ql_val gw_none (ov_ix Try.underlying37 sz53 rfl rfl (k) (by omega) (by omega)) rfl ?_ | refine ql_val gw_none (ov_ix Try.underlying37 sz53 rfl rfl (j) (by omega) (by omega)) rfl ?_ | refine ql_val gw_none (ov_ix Try.underlying37 sz53 rfl rfl (xs.length - 1) (by omega) (by omega)) rfl ?_
                          refine ql_val gw_none (ov_field fo53_0 rfl) rfl ?_
                          refine ql_val gw_none (ov_load 7 sc3 rfl rfl (flatGetG encRepair_len (f := 0) hx rfl _)) rfl ?_
                          refine ql_val gw_none (ov_eql rfl rfl) rfl ?_
                          refine ql_val gw_none (ov_move rfl) rfl ?_
                          refine ql_split (t := 165) rfl (fun g7 => ?_) (fun g7 => ?_)
                          ·
                            skip
                            refine ql_val (gw_some rfl rfl g7) (ov_move rfl) rfl ?_
                            refine ql_val (gw_some rfl rfl g7) (ov_move rfl) rfl ?_
                            refine ql_val (gw_some rfl rfl g7) (ov_move rfl) rfl ?_
                            first | refine ql_val (gw_some rfl rfl g7) (ov_ix Try.underlying34 sz3 rfl rfl _ rfl (by omega)) rfl ?_ | refine ql_val (gw_some rfl rfl g7) (ov_ix Try.underlying34 sz3 rfl rfl (k) (by omega) (by omega)) rfl ?_ | refine ql_val (gw_some rfl rfl g7) (ov_ix Try.underlying34 sz3 rfl rfl (j) (by omega) (by omega)) rfl ?_ | refine ql_val (gw_some rfl rfl g7) (ov_ix Try.underlying34 sz3 rfl rfl (xs.length - 1) (by omega) (by omega)) rfl ?_
                            refine ql_val (gw_some rfl rfl g7) (ov_load 3 sc3 rfl rfl (intsAtP hwg _)) rfl ?_
                            refine ql_callv (gw_some rfl rfl g7) goes41 rfl (fun w1 hp => rHas_c _ y.frame _ _ (hp.slsr 1 rfl hsF1)) rfl ?_
                            refine ql_val (gw_some rfl rfl g7) (ov_move rfl) rfl ?_
                            refine ql_val (gw_some rfl rfl g7) (ov_move rfl) rfl ?_
                            first | refine ql_val (gw_some rfl rfl g7) (ov_ix Try.underlying34 sz3 rfl rfl _ rfl (by omega)) rfl ?_ | refine ql_val (gw_some rfl rfl g7) (ov_ix Try.underlying34 sz3 rfl rfl (k) (by omega) (by omega)) rfl ?_ | refine ql_val (gw_some rfl rfl g7) (ov_ix Try.underlying34 sz3 rfl rfl (j) (by omega) (by omega)) rfl ?_ | refine ql_val (gw_some rfl rfl g7) (ov_ix Try.underlying34 sz3 rfl rfl (xs.length - 1) (by omega) (by omega)) rfl ?_
                            refine ql_val (gw_some rfl rfl g7) (ov_load 5 sc3 rfl rfl (intsAtP hdg _)) rfl ?_
                            refine ql_val (gw_some rfl rfl g7) (ov_move rfl) rfl ?_
                            refine ql_val (gw_some rfl rfl g7) (ov_move rfl) rfl ?_
                            first | refine ql_val (gw_some rfl rfl g7) (ov_ix Try.underlying37 sz53 rfl rfl _ rfl (by omega)) rfl ?_ | refine ql_val (gw_some rfl rfl g7) (ov_ix Try.underlying37 sz53 rfl rfl (k) (by omega) (by omega)) rfl ?_ | refine ql_val (gw_some rfl rfl g7) (ov_ix Try.underlying37 sz53 rfl rfl (j) (by omega) (by omega)) rfl ?_ | refine ql_val (gw_some rfl rfl g7) (ov_ix Try.underlying37 sz53 rfl rfl (xs.length - 1) (by omega) (by omega)) rfl ?_
                            refine ql_val (gw_some rfl rfl g7) (ov_field fo53_4 rfl) rfl ?_
                            refine ql_val (gw_some rfl rfl g7) (ov_load 7 sc3 rfl rfl (flatGetG encRepair_len (f := 4) hx rfl _)) rfl ?_
                            refine ql_val (gw_some rfl rfl g7) (ov_gtr rfl rfl) rfl ?_
                            refine ql_val (gw_some rfl rfl g7) (ov_neb Try.underlying4 rfl rfl) rfl ?_
                            refine ql_val gw_none (ov_pick_t rfl g7 rfl) rfl ?_
                            refine ql_nil ?_
                            refine rl_nil ?_
                            refine at_then ?_
                            first | refine ct_dec rfl (fun h6 => ?_) (fun h6 => ?_) | refine ct_ndec rfl (fun h6 => ?_) (fun h6 => ?_) | refine ct_eq rfl (fun h6 => ?_) (fun h6 => ?_) | refine ct_ne rfl (fun h6 => ?_) (fun h6 => ?_) | refine ct_not rfl (fun h6 => ?_) (fun h6 => ?_) | refine ct_cond rfl (fun h6 => ?_) (fun h6 => ?_)
                            ·
                              have hyr : y = r := frame_eq hok hym hxm (by simpa using g7)
                              subst hyr
                              rw [show decide (y.frame ∈ lateR ws xs mi) = decide (dayV ws (ordL ws xs) mi j > y.due) from decide_eq_decide.2 (by rw [lateR_yes hB]; exact late_iff hok hy)] at h6
                              simp at h6
                            ·
                              refine ct_skip ?_
                              refine at_block ?_
                              refine at_then ?_
                              refine ct_reg ?_
                              refine rl_val gw_none (ov_move rfl) rfl ?_
                              refine rl_val gw_none (ov_add rfl rfl (by omega)) rfl ?_
                              refine rl_val gw_none (ov_assign rfl) rfl ?_
                              refine rl_nil ?_
                              exact at_backR (j + 1) (by first | exact True.intro | omega | (dsimp only; omega) | (dsimp only at *; omega)) (by first | exact True.intro | omega | (dsimp only; omega) | (dsimp only at *; omega)) (by (repeat' (first | exact Sub.nil | refine Sub.cons ?_ ?_)); all_goals (first | rfl | exact lkInt rfl (by omega))) (Sub.cons rfl (Sub.cons rfl (Sub.cons rfl (Sub.cons rfl (Sub.cons rfl (Sub.cons rfl (Sub.cons rfl (Sub.cons rfl (Sub.cons rfl (Sub.cons rfl Sub.nil)))))))))) (fun _ hq => hq)
                          ·
                            refine ql_skip (gw_not rfl rfl g7) rfl ?_
                            refine ql_skip (gw_not rfl rfl g7) rfl ?_
                            refine ql_skip (gw_not rfl rfl g7) rfl ?_
                            refine ql_skip (gw_not rfl rfl g7) rfl ?_
                            refine ql_skip (gw_not rfl rfl g7) rfl ?_
                            refine ql_skip (gw_not rfl rfl g7) rfl ?_
                            refine ql_skip (gw_not rfl rfl g7) rfl ?_
                            refine ql_skip (gw_not rfl rfl g7) rfl ?_
                            refine ql_skip (gw_not rfl rfl g7) rfl ?_
                            refine ql_skip (gw_not rfl rfl g7) rfl ?_
                            refine ql_skip (gw_not rfl rfl g7) rfl ?_
                            refine ql_skip (gw_not rfl rfl g7) rfl ?_
                            refine ql_skip (gw_not rfl rfl g7) rfl ?_
                            refine ql_skip (gw_not rfl rfl g7) rfl ?_
                            refine ql_skip (gw_not rfl rfl g7) rfl ?_
                            refine ql_skip (gw_not rfl rfl g7) rfl ?_
                            refine ql_skip (gw_not rfl rfl g7) rfl ?_
                            refine ql_val gw_none (ov_pick_f rfl g7 rfl) rfl ?_
                            refine ql_nil ?_
                            refine rl_nil ?_
                            refine at_then ?_
                            refine ct_false rfl rfl ?_
                            refine ct_skip ?_
                            refine at_block ?_
                            refine at_then ?_
                            refine ct_reg ?_
                            refine rl_val gw_none (ov_move rfl) rfl ?_
                            refine rl_val gw_none (ov_add rfl rfl (by omega)) rfl ?_
                            refine rl_val gw_none (ov_assign rfl) rfl ?_
                            refine rl_nil ?_
                            exact at_backR (j + 1) (by first | exact True.intro | omega | (dsimp only; omega) | (dsimp only at *; omega)) (by first | exact True.intro | omega | (dsimp only; omega) | (dsimp only at *; omega)) (by (repeat' (first | exact Sub.nil | refine Sub.cons ?_ ?_)); all_goals (first | rfl | exact lkInt rfl (by omega))) (Sub.cons rfl (Sub.cons rfl (Sub.cons rfl (Sub.cons rfl (Sub.cons rfl (Sub.cons rfl (Sub.cons rfl (Sub.cons rfl (Sub.cons rfl (Sub.cons rfl Sub.nil)))))))))) (fun _ hq => hq)
                        ·
                          refine ct_exit ?_
                          refine at_then_exit ?_
                          refine at_then_exit ?_
                          refine at_block_hit ?_
                          refine at_block ?_
                          refine at_then ?_
                          refine ct_reg ?_
                          refine rl_val gw_none (ov_move rfl) rfl ?_
                          refine rl_val gw_none (ov_add rfl rfl (by omega)) rfl ?_
                          refine rl_val gw_none (ov_assign rfl) rfl ?_
                          refine rl_nil ?_
                          exact at_backR (k + 1) (by first | exact True.intro | omega | (dsimp only; omega) | (dsimp only at *; omega)) (by first | exact True.intro | omega | (dsimp only; omega) | (dsimp only at *; omega)) (by (repeat' (first | exact Sub.nil | refine Sub.cons ?_ ?_)); all_goals (first | rfl | exact lkInt rfl (by omega))) (Sub.cons rfl (Sub.cons rfl (Sub.cons rfl (Sub.cons rfl (Sub.cons rfl (Sub.cons rfl (Sub.cons rfl (Sub.cons rfl Sub.nil)))))))) (fun _ hq => hq)
                      ·
                        skip
                        refine rl_skip (gw_not rfl rfl g6) rfl ?_
                        refine rl_skip (gw_not rfl rfl g6) rfl ?_
                        refine rl_skip (gw_not rfl rfl g6) rfl ?_
                        refine rl_skip (gw_not rfl rfl g6) rfl ?_
                        refine rl_val gw_none (ov_pick_f rfl g6 rfl) rfl ?_
                        refine rl_nil ?_
                        refine at_then ?_
                        refine ct_false rfl rfl ?_
                        refine ct_exit ?_
                        refine at_then_exit ?_
                        refine at_then_exit ?_
                        refine at_block_hit ?_
                        refine at_block ?_
                        refine at_then ?_
                        refine ct_reg ?_
                        refine rl_val gw_none (ov_move rfl) rfl ?_
                        refine rl_val gw_none (ov_add rfl rfl (by omega)) rfl ?_
                        refine rl_val gw_none (ov_assign rfl) rfl ?_
                        refine rl_nil ?_
                        exact at_backR (k + 1) (by first | exact True.intro | omega | (dsimp only; omega) | (dsimp only at *; omega)) (by first | exact True.intro | omega | (dsimp only; omega) | (dsimp only at *; omega)) (by (repeat' (first | exact Sub.nil | refine Sub.cons ?_ ?_)); all_goals (first | rfl | exact lkInt rfl (by omega))) (Sub.cons rfl (Sub.cons rfl (Sub.cons rfl (Sub.cons rfl (Sub.cons rfl (Sub.cons rfl (Sub.cons rfl (Sub.cons rfl Sub.nil)))))))) (fun _ hq => hq)
                  ·
                    refine ct_exit ?_
                    refine at_then_exit ?_
                    refine at_then_exit ?_
                    refine at_block_hit ?_
                    exact at_handR (sumM ws xs k) (fun hB => by first | (exact absurd hB (by rw [h3]; simp)) | (rw [show k = xs.length by first | omega | (simp at *; omega)])) (by (repeat' (first | exact Sub.nil | refine Sub.cons ?_ ?_)); all_goals (first | rfl | exact lkInt rfl (by omega))) (Sub.cons rfl (Sub.cons rfl (Sub.cons rfl Sub.nil))) (fun _ hq => hq)
                ·
                  have hke : k = xs.length := by simp at g5; omega
                  refine rl_skip (gw_not rfl rfl g5) rfl ?_
                  refine rl_val gw_none (ov_pick_f rfl g5 rfl) rfl ?_
                  refine rl_nil ?_
                  refine at_then ?_
                  refine ct_false rfl rfl ?_
                  refine ct_exit ?_
                  refine at_then_exit ?_
                  refine at_then_exit ?_
                  refine at_block_hit ?_
                  exact at_handR (sumM ws xs k) (fun hB => by first | (exact absurd hB (by rw [h3]; simp)) | (rw [show k = xs.length by first | omega | (simp at *; omega)])) (by (repeat' (first | exact Sub.nil | refine Sub.cons ?_ ?_)); all_goals (first | rfl | exact lkInt rfl (by omega))) (Sub.cons rfl (Sub.cons rfl (Sub.cons rfl Sub.nil))) (fun _ hq => hq)
              ·
                refine ct_seq ?_
                refine ct_seq ?_
                refine ct_reg ?_
                refine rl_val gw_none (ov_move rfl) rfl ?_
                refine rl_val gw_none (ov_len Try.underlying34 rfl) rfl ?_
                refine rl_val gw_none (ov_assign rfl) rfl ?_
                refine rl_nil ?_
                refine at_then ?_
                refine ct_seq ?_
                refine ct_reg ?_
                refine rl_val gw_none (ov_move rfl) rfl ?_
                refine rl_val gw_none (ov_gtr rfl rfl) rfl ?_
                refine rl_val gw_none (ov_move rfl) rfl ?_
                refine rl_split (t := 188) rfl (fun g8 => ?_) (fun g8 => ?_)
                ·
                  have hB : daysB ws xs mi = true := by
                    rcases Bool.eq_false_or_eq_true (daysB ws xs mi) with h9 | h9
                    · exact h9
                    · rw [daysR_no h9] at g8; simp at g8
                  have hok := (daysB_ok hB).1
                  have hM := (daysB_ok hB).2
                  have hx10 := (repairs_woods hok).2
                  have hdl : (daysR ws xs mi).length = xs.length := by rw [daysR_yes hB, dayL_len]
                  have hn : 0 < xs.length := by rw [hdl] at g8; simp at g8; omega
                  obtain ⟨b3, rfl⟩ := slSome hsD1 (by omega)
                  have hdg : (daysR ws xs mi)[xs.length - 1]? = some (dayV ws (ordL ws xs) mi (xs.length - 1)) := by rw [daysR_yes hB]; exact dayL_get (by omega)
                  have hsb := sumM_bd hok xs.length
                  have hsm2 := hsm hB
                  rw [← sumM_ord] at hsm2
                  have hdv : dayV ws (ordL ws xs) mi (xs.length - 1) = max1 ((sumM ws (ordL ws xs) xs.length + mi - 1) / mi) := by rw [dayV, show xs.length - 1 + 1 = xs.length from by omega]
                  have hdh := day_holds (s := sumM ws (ordL ws xs) xs.length) (M := mi) hsb.1 (by omega)
                  have hdb : 0 ≤ dayV ws (ordL ws xs) mi (xs.length - 1) ∧ dayV ws (ordL ws xs) mi (xs.length - 1) ≤ 1000600 := by
                    have := day_bd (s := sumM ws (ordL ws xs) xs.length) (M := mi) (by omega) (by omega)
                    rw [hdv]; unfold max1; split <;> omega
                  rw [← hdv] at hdh
                  generalize dayV ws (ordL ws xs) mi (xs.length - 1) = D at *
                  have hmb : 0 ≤ D * mi ∧ D * mi ≤ 1000600 * 600 := ⟨Int.mul_nonneg hdb.1 (by omega), Int.mul_le_mul hdb.2 hM.2 (by omega) (by omega)⟩
                  have hmd : (D - 1) * mi = D * mi - mi := by rw [Int.sub_mul, Int.one_mul]
                  refine rl_val (gw_some rfl rfl g8) (ov_move rfl) rfl ?_
                  refine rl_val (gw_some rfl rfl g8) (ov_move rfl) rfl ?_
                  refine rl_val (gw_some rfl rfl g8) (ov_sub rfl rfl (by omega)) rfl ?_
                  first | refine rl_val (gw_some rfl rfl g8) (ov_ix Try.underlying34 sz3 rfl rfl _ rfl (by omega)) rfl ?_ | refine rl_val (gw_some rfl rfl g8) (ov_ix Try.underlying34 sz3 rfl rfl (k) (by omega) (by omega)) rfl ?_ | refine rl_val (gw_some rfl rfl g8) (ov_ix Try.underlying34 sz3 rfl rfl (j) (by omega) (by omega)) rfl ?_ | refine rl_val (gw_some rfl rfl g8) (ov_ix Try.underlying34 sz3 rfl rfl (xs.length - 1) (by omega) (by omega)) rfl ?_
                  refine rl_val (gw_some rfl rfl g8) (ov_load 5 sc3 rfl rfl (intsAtP hdg _)) rfl ?_
                  refine rl_val (gw_some rfl rfl g8) (ov_move rfl) rfl ?_
                  refine rl_val (gw_some rfl rfl g8) (ov_mul rfl rfl (by omega)) rfl ?_
                  refine rl_val (gw_some rfl rfl g8) (ov_move rfl) rfl ?_
                  refine rl_val (gw_some rfl rfl g8) (ov_lss rfl rfl) rfl ?_
                  refine rl_val (gw_some rfl rfl g8) (ov_move rfl) rfl ?_
                  refine rl_split (t := 198) rfl (fun g9 => ?_) (fun g9 => ?_)
                  ·
                    exfalso; first | (simp at g9; omega) | (simp at g9; done) | (simp_all; done)
                  ·
                    refine rl_val (gw_some rfl rfl g9) (ov_move rfl) rfl ?_
                    refine rl_val (gw_some rfl rfl g9) (ov_move rfl) rfl ?_
                    refine rl_val (gw_some rfl rfl g9) (ov_sub rfl rfl (by omega)) rfl ?_
                    first | refine rl_val (gw_some rfl rfl g9) (ov_ix Try.underlying34 sz3 rfl rfl _ rfl (by omega)) rfl ?_ | refine rl_val (gw_some rfl rfl g9) (ov_ix Try.underlying34 sz3 rfl rfl (k) (by omega) (by omega)) rfl ?_ | refine rl_val (gw_some rfl rfl g9) (ov_ix Try.underlying34 sz3 rfl rfl (j) (by omega) (by omega)) rfl ?_ | refine rl_val (gw_some rfl rfl g9) (ov_ix Try.underlying34 sz3 rfl rfl (xs.length - 1) (by omega) (by omega)) rfl ?_
                    refine rl_val (gw_some rfl rfl g9) (ov_load 5 sc3 rfl rfl (intsAtP hdg _)) rfl ?_
                    refine rl_val (gw_some rfl rfl g9) (ov_gtr rfl rfl) rfl ?_
                    refine rl_val (gw_some rfl rfl g9) (ov_move rfl) rfl ?_
                    refine rl_split (t := 205) rfl (fun g10 => ?_) (fun g10 => ?_)
                    ·
                      skip
                      refine rl_val (gw_some rfl rfl g10) (ov_move rfl) rfl ?_
                      refine rl_val (gw_some rfl rfl g10) (ov_move rfl) rfl ?_
                      refine rl_val (gw_some rfl rfl g10) (ov_sub rfl rfl (by omega)) rfl ?_
                      first | refine rl_val (gw_some rfl rfl g10) (ov_ix Try.underlying34 sz3 rfl rfl _ rfl (by omega)) rfl ?_ | refine rl_val (gw_some rfl rfl g10) (ov_ix Try.underlying34 sz3 rfl rfl (k) (by omega) (by omega)) rfl ?_ | refine rl_val (gw_some rfl rfl g10) (ov_ix Try.underlying34 sz3 rfl rfl (j) (by omega) (by omega)) rfl ?_ | refine rl_val (gw_some rfl rfl g10) (ov_ix Try.underlying34 sz3 rfl rfl (xs.length - 1) (by omega) (by omega)) rfl ?_
                      refine rl_val (gw_some rfl rfl g10) (ov_load 5 sc3 rfl rfl (intsAtP hdg _)) rfl ?_
                      refine rl_val (gw_some rfl rfl g10) (ov_sub rfl rfl (by omega)) rfl ?_
                      refine rl_val (gw_some rfl rfl g10) (ov_move rfl) rfl ?_
                      refine rl_val (gw_some rfl rfl g10) (ov_mul rfl rfl (by omega)) rfl ?_
                      refine rl_val (gw_some rfl rfl g10) (ov_move rfl) rfl ?_
                      refine rl_val (gw_some rfl rfl g10) (ov_geq rfl rfl) rfl ?_
                      refine rl_val (gw_some rfl rfl g9) (ov_pick_t rfl g10 rfl) rfl ?_
                      refine rl_val (gw_some rfl rfl g8) (ov_pick_f rfl g9 rfl) rfl ?_
                      refine rl_val gw_none (ov_pick_t rfl g8 rfl) rfl ?_
                      refine rl_nil ?_
                      refine at_then ?_
                      first | refine ct_dec rfl (fun h7 => ?_) (fun h7 => ?_) | refine ct_ndec rfl (fun h7 => ?_) (fun h7 => ?_) | refine ct_eq rfl (fun h7 => ?_) (fun h7 => ?_) | refine ct_ne rfl (fun h7 => ?_) (fun h7 => ?_) | refine ct_not rfl (fun h7 => ?_) (fun h7 => ?_) | refine ct_cond rfl (fun h7 => ?_) (fun h7 => ?_)
                      ·
                        have hd9 := hdh.2 (by simpa using g10)
                        omega
                      ·
                        refine ct_skip ?_
                        refine at_then ?_
                        refine ct_seq ?_
                        refine ct_reg ?_
                        refine rl_val gw_none (ov_move rfl) rfl ?_
                        refine rl_calle (ι := (Option Nat × Nat × List Value × List Wood) × (Option Nat × Nat × List Value × List Repair) × Int) (fun q => .tuple #[sv q.1.1 q.1.2.2.2.length q.1.2.1, sv q.2.1.1 q.2.1.2.2.2.length q.2.1.2.1, .int .i64 q.2.2]) (fun q => [(q.1.1, 67, flat encWood q.1.2.2.2 ++ q.1.2.2.1), (q.2.1.1, 53, flat encRepair q.2.1.2.2.2 ++ q.2.1.2.2.1)]) (fun q => (Sl 3 q.1.1 q.1.2.2.2.length q.1.2.1 (flat encWood q.1.2.2.2) q.1.2.2.1 ∧ q.1.2.2.2.length ≤ 10 ∧ (∀ y ∈ q.1.2.2.2, GWood y)) ∧ (Sl 5 q.2.1.1 q.2.1.2.2.2.length q.2.1.2.1 (flat encRepair q.2.1.2.2.2) q.2.1.2.2.1 ∧ q.2.1.2.2.2.length ≤ 12 ∧ (∀ y ∈ q.2.1.2.2.2, GRepair y)) ∧ In64 q.2.2) goes42 rfl (fun w1 hp => DrawMinutesFor_c _ _ _ _ (hcd.call hp (E := []) (by simp))) rfl (fun qd hqd => ?_)
                        obtain ⟨⟨bw2, cw2, pw2, ws2⟩, ⟨br2, cr2, pr2, xs2⟩, mi2⟩ := qd
                        obtain ⟨⟨hslw2, hw102, hGw2⟩, ⟨hslr2, hr122, hGr2⟩, zmi2⟩ := hqd
                        dsimp only at hslw2 hw102 hGw2 hslr2 hr122 hGr2 zmi2
                        try dsimp only
                        refine rl_val gw_none (ov_move rfl) rfl ?_
                        refine rl_val gw_none (ov_extract rfl rfl) rfl ?_
                        refine rl_val gw_none (ov_extract rfl rfl) rfl ?_
                        refine rl_val gw_none (ov_extract rfl rfl) rfl ?_
                        refine rl_val gw_none (ov_assign rfl) rfl ?_
                        refine rl_val gw_none (ov_assign rfl) rfl ?_
                        refine rl_val gw_none (ov_assign rfl) rfl ?_
                        refine rl_nil ?_
                        refine at_then ?_
                        refine ct_seq ?_
                        refine ct_reg ?_
                        refine rl_val gw_none (ov_move rfl) rfl ?_
                        refine rl_val gw_none (ov_move rfl) rfl ?_
                        refine rl_val gw_none (ov_move rfl) rfl ?_
                        refine rl_callv gw_none goes40 rfl (fun w1 hp => iMinutesFor_c ws2 xs2 mi2 _ _ _ hGw2 (hp.slsr 0 rfl hslw2) hGr2 (hp.slsr 1 rfl hslr2) zmi2) rfl ?_
                        refine rl_val gw_none (ov_move rfl) rfl ?_
                        refine rl_val gw_none (ov_extract rfl rfl) rfl ?_
                        refine rl_val gw_none (ov_extract rfl rfl) rfl ?_
                        refine rl_val gw_none (ov_assign rfl) rfl ?_
                        refine rl_val gw_none (ov_assign rfl) rfl ?_
                        refine rl_nil ?_
                        refine at_then ?_
                        refine ct_seq ?_
                        refine ct_reg ?_
                        refine rl_val gw_none (ov_move rfl) rfl ?_
                        refine rl_val gw_none (ov_move rfl) rfl ?_
                        refine rl_val gw_none (ov_move rfl) rfl ?_
                        refine rl_callv gw_none goes43 rfl (fun w1 hp => sMinutesFor_c ws2 xs2 mi2 _ _ _ hGw2 (hp.slsr 0 rfl hslw2) hGr2 (hp.slsr 1 rfl hslr2) zmi2) rfl ?_
                        refine rl_val gw_none (ov_move rfl) rfl ?_
                        refine rl_val gw_none (ov_extract rfl rfl) rfl ?_
                        refine rl_val gw_none (ov_extract rfl rfl) rfl ?_
                        refine rl_val gw_none (ov_assign rfl) rfl ?_
                        refine rl_val gw_none (ov_assign rfl) rfl ?_
                        refine rl_nil ?_
                        refine at_then ?_
                        refine ct_seq ?_
                        refine ct_reg ?_
                        refine rl_val gw_none (ov_move rfl) rfl ?_
                        refine rl_val gw_none (ov_move rfl) rfl ?_
                        refine rl_val gw_none (ov_eql rfl rfl) rfl ?_
                        refine rl_val gw_none (ov_move rfl) rfl ?_
                        refine rl_split (t := 242) rfl (fun g11 => ?_) (fun g11 => ?_)
                        ·
                          skip
                          refine rl_val (gw_some rfl rfl g11) (ov_move rfl) rfl ?_
                          refine rl_val (gw_some rfl rfl g11) (ov_move rfl) rfl ?_
                          refine rl_val (gw_some rfl rfl g11) (ov_eqb Try.underlying4 rfl rfl) rfl ?_
                          refine rl_val gw_none (ov_pick_t rfl g11 rfl) rfl ?_
                          refine rl_val gw_none (ov_assign rfl) rfl ?_
                          refine rl_nil ?_
                          refine at_then ?_
                          refine ct_ret ?_
                          refine at_ret1 Try.results6 (ro_tmp rfl) (fun w1 hp => ?_)
                          refine ⟨?_, hp.ext0⟩
                          first | rfl | (simp; done)
                        ·
                          exfalso; simp at g11
                    ·
                      refine rl_skip (gw_not rfl rfl g10) rfl ?_
                      refine rl_skip (gw_not rfl rfl g10) rfl ?_
                      refine rl_skip (gw_not rfl rfl g10) rfl ?_
                      refine rl_skip (gw_not rfl rfl g10) rfl ?_
                      refine rl_skip (gw_not rfl rfl g10) rfl ?_
                      refine rl_skip (gw_not rfl rfl g10) rfl ?_
                      refine rl_skip (gw_not rfl rfl g10) rfl ?_
                      refine rl_skip (gw_not rfl rfl g10) rfl ?_
                      refine rl_skip (gw_not rfl rfl g10) rfl ?_
                      refine rl_skip (gw_not rfl rfl g10) rfl ?_
                      refine rl_val (gw_some rfl rfl g9) (ov_pick_f rfl g10 rfl) rfl ?_
                      refine rl_val (gw_some rfl rfl g8) (ov_pick_f rfl g9 rfl) rfl ?_
                      refine rl_val gw_none (ov_pick_t rfl g8 rfl) rfl ?_
                      refine rl_nil ?_
                      refine at_then ?_
                      refine ct_false rfl rfl ?_
                      refine ct_skip ?_
                      refine at_then ?_
                      refine ct_seq ?_
                      refine ct_reg ?_
                      refine rl_val gw_none (ov_move rfl) rfl ?_
                      refine rl_calle (ι := (Option Nat × Nat × List Value × List Wood) × (Option Nat × Nat × List Value × List Repair) × Int) (fun q => .tuple #[sv q.1.1 q.1.2.2.2.length q.1.2.1, sv q.2.1.1 q.2.1.2.2.2.length q.2.1.2.1, .int .i64 q.2.2]) (fun q => [(q.1.1, 67, flat encWood q.1.2.2.2 ++ q.1.2.2.1), (q.2.1.1, 53, flat encRepair q.2.1.2.2.2 ++ q.2.1.2.2.1)]) (fun q => (Sl 3 q.1.1 q.1.2.2.2.length q.1.2.1 (flat encWood q.1.2.2.2) q.1.2.2.1 ∧ q.1.2.2.2.length ≤ 10 ∧ (∀ y ∈ q.1.2.2.2, GWood y)) ∧ (Sl 5 q.2.1.1 q.2.1.2.2.2.length q.2.1.2.1 (flat encRepair q.2.1.2.2.2) q.2.1.2.2.1 ∧ q.2.1.2.2.2.length ≤ 12 ∧ (∀ y ∈ q.2.1.2.2.2, GRepair y)) ∧ In64 q.2.2) goes42 rfl (fun w1 hp => DrawMinutesFor_c _ _ _ _ (hcd.call hp (E := []) (by simp))) rfl (fun qd hqd => ?_)
                      obtain ⟨⟨bw2, cw2, pw2, ws2⟩, ⟨br2, cr2, pr2, xs2⟩, mi2⟩ := qd
                      obtain ⟨⟨hslw2, hw102, hGw2⟩, ⟨hslr2, hr122, hGr2⟩, zmi2⟩ := hqd
                      dsimp only at hslw2 hw102 hGw2 hslr2 hr122 hGr2 zmi2
                      try dsimp only
                      refine rl_val gw_none (ov_move rfl) rfl ?_
                      refine rl_val gw_none (ov_extract rfl rfl) rfl ?_
                      refine rl_val gw_none (ov_extract rfl rfl) rfl ?_
                      refine rl_val gw_none (ov_extract rfl rfl) rfl ?_
                      refine rl_val gw_none (ov_assign rfl) rfl ?_
                      refine rl_val gw_none (ov_assign rfl) rfl ?_
                      refine rl_val gw_none (ov_assign rfl) rfl ?_
                      refine rl_nil ?_
                      refine at_then ?_
                      refine ct_seq ?_
                      refine ct_reg ?_
                      refine rl_val gw_none (ov_move rfl) rfl ?_
                      refine rl_val gw_none (ov_move rfl) rfl ?_
                      refine rl_val gw_none (ov_move rfl) rfl ?_
                      refine rl_callv gw_none goes40 rfl (fun w1 hp => iMinutesFor_c ws2 xs2 mi2 _ _ _ hGw2 (hp.slsr 0 rfl hslw2) hGr2 (hp.slsr 1 rfl hslr2) zmi2) rfl ?_
                      refine rl_val gw_none (ov_move rfl) rfl ?_
                      refine rl_val gw_none (ov_extract rfl rfl) rfl ?_
                      refine rl_val gw_none (ov_extract rfl rfl) rfl ?_
                      refine rl_val gw_none (ov_assign rfl) rfl ?_
                      refine rl_val gw_none (ov_assign rfl) rfl ?_
                      refine rl_nil ?_
                      refine at_then ?_
                      refine ct_seq ?_
                      refine ct_reg ?_
                      refine rl_val gw_none (ov_move rfl) rfl ?_
                      refine rl_val gw_none (ov_move rfl) rfl ?_
                      refine rl_val gw_none (ov_move rfl) rfl ?_
                      refine rl_callv gw_none goes43 rfl (fun w1 hp => sMinutesFor_c ws2 xs2 mi2 _ _ _ hGw2 (hp.slsr 0 rfl hslw2) hGr2 (hp.slsr 1 rfl hslr2) zmi2) rfl ?_
                      refine rl_val gw_none (ov_move rfl) rfl ?_
                      refine rl_val gw_none (ov_extract rfl rfl) rfl ?_
                      refine rl_val gw_none (ov_extract rfl rfl) rfl ?_
                      refine rl_val gw_none (ov_assign rfl) rfl ?_
                      refine rl_val gw_none (ov_assign rfl) rfl ?_
                      refine rl_nil ?_
                      refine at_then ?_
                      refine ct_seq ?_
                      refine ct_reg ?_
                      refine rl_val gw_none (ov_move rfl) rfl ?_
                      refine rl_val gw_none (ov_move rfl) rfl ?_
                      refine rl_val gw_none (ov_eql rfl rfl) rfl ?_
                      refine rl_val gw_none (ov_move rfl) rfl ?_
                      refine rl_split (t := 242) rfl (fun g12 => ?_) (fun g12 => ?_)
                      ·
                        skip
                        refine rl_val (gw_some rfl rfl g12) (ov_move rfl) rfl ?_
                        refine rl_val (gw_some rfl rfl g12) (ov_move rfl) rfl ?_
                        refine rl_val (gw_some rfl rfl g12) (ov_eqb Try.underlying4 rfl rfl) rfl ?_
                        refine rl_val gw_none (ov_pick_t rfl g12 rfl) rfl ?_
                        refine rl_val gw_none (ov_assign rfl) rfl ?_
                        refine rl_nil ?_
                        refine at_then ?_
                        refine ct_ret ?_
                        refine at_ret1 Try.results6 (ro_tmp rfl) (fun w1 hp => ?_)
                        refine ⟨?_, hp.ext0⟩
                        first | rfl | (simp; done)
                      ·
                        exfalso; simp at g12
                ·
                  skip
                  refine rl_skip (gw_not rfl rfl g8) rfl ?_
                  refine rl_skip (gw_not rfl rfl g8) rfl ?_
                  refine rl_skip (gw_not rfl rfl g8) rfl ?_
                  refine rl_skip (gw_not rfl rfl g8) rfl ?_
                  refine rl_skip (gw_not rfl rfl g8) rfl ?_
                  refine rl_skip (gw_not rfl rfl g8) rfl ?_
                  refine rl_skip (gw_not rfl rfl g8) rfl ?_
                  refine rl_skip (gw_not rfl rfl g8) rfl ?_
                  refine rl_skip (gw_not rfl rfl g8) rfl ?_
                  refine rl_skip (gw_not rfl rfl g8) rfl ?_
                  refine rl_skip (gw_undef rfl rfl) rfl ?_
                  refine rl_skip (gw_undef rfl rfl) rfl ?_
                  refine rl_skip (gw_undef rfl rfl) rfl ?_
                  refine rl_skip (gw_undef rfl rfl) rfl ?_
                  refine rl_skip (gw_undef rfl rfl) rfl ?_
                  refine rl_skip (gw_undef rfl rfl) rfl ?_
                  refine rl_skip (gw_undef rfl rfl) rfl ?_
                  refine rl_skip (gw_undef rfl rfl) rfl ?_
                  refine rl_skip (gw_undef rfl rfl) rfl ?_
                  refine rl_skip (gw_undef rfl rfl) rfl ?_
                  refine rl_skip (gw_undef rfl rfl) rfl ?_
                  refine rl_skip (gw_undef rfl rfl) rfl ?_
                  refine rl_skip (gw_undef rfl rfl) rfl ?_
                  refine rl_skip (gw_undef rfl rfl) rfl ?_
                  refine rl_skip (gw_undef rfl rfl) rfl ?_
                  refine rl_skip (gw_undef rfl rfl) rfl ?_
                  refine rl_skip (gw_undef rfl rfl) rfl ?_
                  refine rl_skip (gw_undef rfl rfl) rfl ?_
                  refine rl_skip (gw_not rfl rfl g8) rfl ?_
                  refine rl_val gw_none (ov_pick_f rfl g8 rfl) rfl ?_
                  refine rl_nil ?_
                  refine at_then ?_
                  refine ct_false rfl rfl ?_
                  refine ct_skip ?_
                  refine at_then ?_
                  refine ct_seq ?_
                  refine ct_reg ?_
                  refine rl_val gw_none (ov_move rfl) rfl ?_
                  refine rl_calle (ι := (Option Nat × Nat × List Value × List Wood) × (Option Nat × Nat × List Value × List Repair) × Int) (fun q => .tuple #[sv q.1.1 q.1.2.2.2.length q.1.2.1, sv q.2.1.1 q.2.1.2.2.2.length q.2.1.2.1, .int .i64 q.2.2]) (fun q => [(q.1.1, 67, flat encWood q.1.2.2.2 ++ q.1.2.2.1), (q.2.1.1, 53, flat encRepair q.2.1.2.2.2 ++ q.2.1.2.2.1)]) (fun q => (Sl 3 q.1.1 q.1.2.2.2.length q.1.2.1 (flat encWood q.1.2.2.2) q.1.2.2.1 ∧ q.1.2.2.2.length ≤ 10 ∧ (∀ y ∈ q.1.2.2.2, GWood y)) ∧ (Sl 5 q.2.1.1 q.2.1.2.2.2.length q.2.1.2.1 (flat encRepair q.2.1.2.2.2) q.2.1.2.2.1 ∧ q.2.1.2.2.2.length ≤ 12 ∧ (∀ y ∈ q.2.1.2.2.2, GRepair y)) ∧ In64 q.2.2) goes42 rfl (fun w1 hp => DrawMinutesFor_c _ _ _ _ (hcd.call hp (E := []) (by simp))) rfl (fun qd hqd => ?_)
                  obtain ⟨⟨bw2, cw2, pw2, ws2⟩, ⟨br2, cr2, pr2, xs2⟩, mi2⟩ := qd
                  obtain ⟨⟨hslw2, hw102, hGw2⟩, ⟨hslr2, hr122, hGr2⟩, zmi2⟩ := hqd
                  dsimp only at hslw2 hw102 hGw2 hslr2 hr122 hGr2 zmi2
                  try dsimp only
                  refine rl_val gw_none (ov_move rfl) rfl ?_
                  refine rl_val gw_none (ov_extract rfl rfl) rfl ?_
                  refine rl_val gw_none (ov_extract rfl rfl) rfl ?_
                  refine rl_val gw_none (ov_extract rfl rfl) rfl ?_
                  refine rl_val gw_none (ov_assign rfl) rfl ?_
                  refine rl_val gw_none (ov_assign rfl) rfl ?_
                  refine rl_val gw_none (ov_assign rfl) rfl ?_
                  refine rl_nil ?_
                  refine at_then ?_
                  refine ct_seq ?_
                  refine ct_reg ?_
                  refine rl_val gw_none (ov_move rfl) rfl ?_
                  refine rl_val gw_none (ov_move rfl) rfl ?_
                  refine rl_val gw_none (ov_move rfl) rfl ?_
                  refine rl_callv gw_none goes40 rfl (fun w1 hp => iMinutesFor_c ws2 xs2 mi2 _ _ _ hGw2 (hp.slsr 0 rfl hslw2) hGr2 (hp.slsr 1 rfl hslr2) zmi2) rfl ?_
                  refine rl_val gw_none (ov_move rfl) rfl ?_
                  refine rl_val gw_none (ov_extract rfl rfl) rfl ?_
                  refine rl_val gw_none (ov_extract rfl rfl) rfl ?_
                  refine rl_val gw_none (ov_assign rfl) rfl ?_
                  refine rl_val gw_none (ov_assign rfl) rfl ?_
                  refine rl_nil ?_
                  refine at_then ?_
                  refine ct_seq ?_
                  refine ct_reg ?_
                  refine rl_val gw_none (ov_move rfl) rfl ?_
                  refine rl_val gw_none (ov_move rfl) rfl ?_
                  refine rl_val gw_none (ov_move rfl) rfl ?_
                  refine rl_callv gw_none goes43 rfl (fun w1 hp => sMinutesFor_c ws2 xs2 mi2 _ _ _ hGw2 (hp.slsr 0 rfl hslw2) hGr2 (hp.slsr 1 rfl hslr2) zmi2) rfl ?_
                  refine rl_val gw_none (ov_move rfl) rfl ?_
                  refine rl_val gw_none (ov_extract rfl rfl) rfl ?_
                  refine rl_val gw_none (ov_extract rfl rfl) rfl ?_
                  refine rl_val gw_none (ov_assign rfl) rfl ?_
                  refine rl_val gw_none (ov_assign rfl) rfl ?_
                  refine rl_nil ?_
                  refine at_then ?_
                  refine ct_seq ?_
                  refine ct_reg ?_
                  refine rl_val gw_none (ov_move rfl) rfl ?_
                  refine rl_val gw_none (ov_move rfl) rfl ?_
                  refine rl_val gw_none (ov_eql rfl rfl) rfl ?_
                  refine rl_val gw_none (ov_move rfl) rfl ?_
                  refine rl_split (t := 242) rfl (fun g13 => ?_) (fun g13 => ?_)
                  ·
                    skip
                    refine rl_val (gw_some rfl rfl g13) (ov_move rfl) rfl ?_
                    refine rl_val (gw_some rfl rfl g13) (ov_move rfl) rfl ?_
                    refine rl_val (gw_some rfl rfl g13) (ov_eqb Try.underlying4 rfl rfl) rfl ?_
                    refine rl_val gw_none (ov_pick_t rfl g13 rfl) rfl ?_
                    refine rl_val gw_none (ov_assign rfl) rfl ?_
                    refine rl_nil ?_
                    refine at_then ?_
                    refine ct_ret ?_
                    refine at_ret1 Try.results6 (ro_tmp rfl) (fun w1 hp => ?_)
                    refine ⟨?_, hp.ext0⟩
                    first | rfl | (simp; done)
                  ·
                    exfalso; simp at g13
end Go.Proofs.Ytaajkamfeaafpaa
