import Derived.Test.YtgnnlgmeagipjaaGa
import Derived.Test.YtgnnlgmeagipjaaDa
import Derived.Test.YtgnnlgmeagipjaaTh
import Derived.Test.YtgnnlgmeagipjaaTb
import Derived.KernelRfl
import Derived.Test.YtgnnlgmeagipjaaTd
import Derived.Test.YtgnnlgmeagipjaaTf
set_option linter.unusedVariables false
set_option linter.unusedSimpArgs false
namespace Go.Proofs.Ytgnnlgmeagipjaa
open Go Go.RowKit K
/-- The closure writes what tl says into the block bT, in every world that may come. -/
def TellOK (fT : FuncId) (caps : List Value) (tl : Int → Int → Int → Int → Int) (bT hb : Nat) (D : List Nat) (w : World) : Prop := ∀ (w1 : World) (v : Int) (hs : List Bool), Hp ⟨w, D⟩ [(some bT, 3, [.int .i64 v]), (some hb, 4, bls hs)] w1 → ∀ d f c : Int,
    Calls Try.prog fT (([Value.int .i64 d, Value.int .i64 f, Value.int .i64 c] : List Value) ++ caps).toArray w1 (fun e w' => ∃ _ : Unit, True ∧ e = .returned (.tuple #[]) ∧ Hp ⟨w1, [bT]⟩ [(some bT, 3, [.int .i64 (tl v d f c)])] w')
theorem TellOK.call {fT : FuncId} {caps : List Value} {tl : Int → Int → Int → Int → Int} {bT hb : Nat} {D : List Nat} {w w1 : World} {v : Int} {hs : List Bool} (h : TellOK fT caps tl bT hb D w) (hp : Hp ⟨w, D⟩ [(some bT, 3, [.int .i64 v]), (some hb, 4, bls hs)] w1) : TellOK fT caps tl bT hb (keys [(some bT, 3, [.int .i64 v]), (some hb, 4, bls hs)]) w1 := fun w2 v2 hs2 h2 d f c =>
  h w2 v2 hs2 (by have := Hp.liftd (rest := []) (by simpa using hp) h2; simpa using this) d f c
def ToursQ (xs : List Road) (st : List Stay) (tl : Int → Int → Int → Int → Int) (fT : FuncId) (caps : List Value) (R : List Int → Int → Int) (kk : Nat) : Prop := ∀ (l : List Int) (v t d f c : Int) (hb bT : Nat) (lv : Value) (D : List Nat) (w : World) (h0 : Hp ⟨w, D⟩ [(some bT, 3, [.int .i64 v]), (some hb, 4, bls (flg st.length l))] w) (hl : OrdR xs st l) (hkk : l.length + kk = st.length)
    (et : t = (daF (ways (-1) xs) st l).2) (ed : d = (daF (ways (-1) xs) st l).1) (ef : f = feeL st l) (ec : c = (l.length : Int)) (hsd : SRD w D 3 lv st.length (flat encStay st)) (hT : TellOK fT caps tl bT hb D w),
    Calls Try.prog 46 [.agg (ints (ways (-1) xs)).toArray, lv, .slice (some ⟨hb, 0, none⟩) st.length st.length, .int .i64 t, .int .i64 d, .int .i64 f, .int .i64 c, .func (.func fT) #[] caps.toArray].toArray w (fun e w' => ∃ _ : Unit, True ∧ e = .returned (.tuple #[]) ∧ Hp ⟨w, D⟩ [(some bT, 3, [.int .i64 (R l v)]), (some hb, 4, bls (flg st.length l))] w')

theorem tours_w (xs : List Road) (st : List Stay) (tl : Int → Int → Int → Int → Int) (fT : FuncId) (caps : List Value) (hgo : Goes Try.prog fT) (hR : OkR xs) (hsB : staysB st = true) (R : List Int → Int → Int) (kk : Nat) (ih : ∀ q, q + 1 = kk → ToursQ xs st tl fT caps R q) (l : List Int) (v t d f c : Int) (hb bT : Nat) (lv : Value) (D : List Nat) (w : World) (h0 : Hp ⟨w, D⟩ [(some bT, 3, [.int .i64 v]), (some hb, 4, bls (flg st.length l))] w) (hl : OrdR xs st l) (hkk : l.length + kk = st.length) (et : t = (daF (ways (-1) xs) st l).2) (ed : d = (daF (ways (-1) xs) st l).1) (ef : f = feeL st l) (ec : c = (l.length : Int)) (hsd : SRD w D 3 lv st.length (flat encStay st)) (hT : TellOK fT caps tl bT hb D w) : Calls Try.prog 46 ([.agg (ints (ways (-1) xs)).toArray, lv, .slice (some ⟨hb, 0, none⟩) st.length st.length, .int .i64 t, .int .i64 d, .int .i64 f, .int .i64 c, .func (.func fT) #[] caps.toArray]).toArray w (fun e w' => ∃ _ : Unit, True ∧ e = .returned (.tuple #[]) ∧ Hp ⟨w, D⟩ [(some bT, 3, [.int .i64 (trF (ways (-1) xs) st tl R l v)]), (some hb, 4, bls (flg st.length l))] w') := by
  obtain ⟨a, capx, rfl, hcapx, hmaxx⟩ := hsd.slice
  have htb := daF_town (m := ways (-1) xs) hsB l
  have hwl := ways_len (-1) xs
  have hst7 : st.length ≤ 7 := listB_len hsB
  have hd0 := hl.d0
  have hd1 := hl.d1
  have hf0 := hl.f0
  have hf1 := hl.f1
  rw [← et] at htb
  rw [← ed] at hd0 hd1
  rw [← ef] at hf0 hf1
  have hfl := bls_flg_len st.length l
  refine calls_ctds h0 Try.func46 Try.ntmps46 rfl rfl ?_
  refine ct_seq ?_
  refine ct_reg ?_
  refine rl_box rfl rfl (fun N1 => ?_)
  refine rl_mem (μ' := (some N1, 72, ints (ways (-1) xs)) :: [_, _]) (fun _ hq => hq) ?_
  refine rl_nil ?_
  refine at_then ?_
  refine ct_seq ?_
  refine ct_reg ?_
  refine rl_val gw_none (ov_move rfl) rfl ?_
  refine rl_val gw_none (ov_move rfl) rfl ?_
  refine rl_val gw_none (ov_move rfl) rfl ?_
  refine rl_val gw_none (ov_move rfl) rfl ?_
  refine rl_calldc (ι := Unit) (fun _ => .tuple #[]) [_] [_, _] (fun _ => [(some bT, 3, [.int .i64 (tl v d f c)])]) (fun _ => True) gw_none hgo rfl rfl (fun _ hq => (hq).pull 1 rfl) (fun w1 hp h0 => hT _ v _ (Hp.sub (Hp.pull (Hp.pull hp 2 rfl) 2 rfl) (List.sublist_append_left [_, _] _)) d f c) rfl (fun _ _ => ?_)
  rw [show tl v d f c = trP (ways (-1) xs) st tl R l v 0 from by rw [ed, ef, ec]; rfl]
  refine rl_nil ?_
  refine at_then ?_
  refine ct_seq ?_
  refine ct_reg ?_
  refine rl_val gw_none (ov_move rfl) rfl ?_
  refine rl_val gw_none (ov_len Try.underlying30 rfl) rfl ?_
  refine rl_val gw_none (ov_move rfl) rfl ?_
  refine rl_nil ?_
  refine at_then ?_
  refine ct_block ?_
  refine ct_loopR (ι := Nat) (fun k => [(25, .int .i64 k)]) [(1, _), (2, _), (3, _), (4, _), (5, _), (6, _), (7, _), (8, _), (23, _), (24, _)] (fun k => (some bT, 3, [.int .i64 (trP (ways (-1) xs) st tl R l v k)]) :: _) (fun k => k ≤ st.length) (fun k => st.length - k) (0) (Sub.cons rfl (Sub.cons rfl (Sub.cons rfl (Sub.cons rfl (Sub.cons rfl (Sub.cons rfl (Sub.cons rfl (Sub.cons rfl (Sub.cons rfl (Sub.cons rfl Sub.nil)))))))))) (fun _ hq => hq) (by (repeat' (first | exact Sub.nil | refine Sub.cons ?_ ?_)); all_goals (first | rfl | exact lkInt rfl (by omega))) (by first | exact True.intro | omega | (dsimp only; omega) | (dsimp only at *; omega)) (fun k hk => ?_)
  refine ct_seq ?_
  refine ct_reg ?_
  refine rl_val gw_none (ov_lss rfl rfl) rfl ?_
  refine rl_nil ?_
  refine at_then ?_
  refine ct_seq ?_
  first | refine ct_dec rfl (fun h1 => ?_) (fun h1 => ?_) | refine ct_ndec rfl (fun h1 => ?_) (fun h1 => ?_) | refine ct_eq rfl (fun h1 => ?_) (fun h1 => ?_) | refine ct_ne rfl (fun h1 => ?_) (fun h1 => ?_) | refine ct_not rfl (fun h1 => ?_) (fun h1 => ?_) | refine ct_cond rfl (fun h1 => ?_) (fun h1 => ?_)
  ·
    have hk2 : k < st.length := by omega
    obtain ⟨b, o, hab, hbD, hel⟩ := hsd.elem encStay_len (by omega) hk2
    subst hab
    have hx := getLt hk2
    generalize st[k] = x at hx
    have hcell := hel k x hx
    have hxb := stay_at hsB hx
    have hxi : st[(k : Int).toNat]? = some x := by rw [Int.toNat_natCast]; exact hx
    have htw := tw_eq hxi
    have hdy := dy_eq hxi
    have hfe := fe_eq hxi
    have hat8 : t.toNat < 8 := by omega
    have hxt8 : x.town.toNat < 8 := by omega
    have hgb := ways_bd (wo := -1) hR hat8 hxt8
    refine ct_skip ?_
    refine at_then ?_
    refine ct_seq ?_
    refine ct_block ?_
    refine ct_seq ?_
    refine ct_reg ?_
    refine rl_val gw_none (ov_move rfl) rfl ?_
    first | refine rl_val gw_none (ov_ix Try.underlying30 sz44 rfl rfl _ rfl (by omega)) rfl ?_ | refine rl_val gw_none (ov_ix Try.underlying30 sz44 rfl rfl (k) (by omega) (by omega)) rfl ?_ | refine rl_val gw_none (ov_ix Try.underlying30 sz44 rfl rfl (t.toNat) (by omega) (by omega)) rfl ?_ | refine rl_val gw_none (ov_ix Try.underlying30 sz44 rfl rfl (x.town.toNat) (by omega) (by omega)) rfl ?_
    refine rl_val gw_none (ov_loadawd ag44 rfl rfl hcell hbD) rfl ?_
    refine rl_alloc ze44 rfl (fun N2 => ?_)
    refine rl_val gw_none (ov_assign rfl) rfl ?_
    refine rl_store [] sz44 rfl rfl rfl rfl rfl (Nat.le_of_ble_eq_true rfl) ?_
    refine rl_nil ?_
    refine at_then ?_
    refine ct_seq ?_
    refine ct_seq ?_
    refine ct_dr 13 (by kernel_rfl) (by kernel_rfl) ?_
    refine ql_val gw_none (ov_move rfl) rfl ?_
    refine ql_val gw_none (ov_move rfl) rfl ?_
    first | refine ql_val gw_none (ov_ix Try.underlying74 sz4 rfl rfl _ rfl (by omega)) rfl ?_ | refine ql_val gw_none (ov_ix Try.underlying74 sz4 rfl rfl (k) (by omega) (by omega)) rfl ?_ | refine ql_val gw_none (ov_ix Try.underlying74 sz4 rfl rfl (t.toNat) (by omega) (by omega)) rfl ?_ | refine ql_val gw_none (ov_ix Try.underlying74 sz4 rfl rfl (x.town.toNat) (by omega) (by omega)) rfl ?_
    refine ql_val gw_none (ov_load 3 sc4 rfl rfl (flg_get hk2 (by omega))) rfl ?_
    refine ql_val gw_none (ov_move rfl) rfl ?_
    refine ql_split (t := 34) rfl (fun g1 => ?_) (fun g1 => ?_)
    ·
      have g1' := g1
      try simp only [Bool.not_eq_true', Bool.not_eq_false', Bool.not_not, decide_eq_true_eq, decide_eq_false_iff_not, beq_iff_eq, beq_eq_false_iff_ne, bne_iff_ne, bne_eq_false_iff_eq, Bool.and_eq_true, Bool.or_eq_true, Bool.and_eq_false_iff, Bool.or_eq_false_iff, inB] at g1'
      refine ql_skip (gw_not rfl rfl g1) rfl ?_
      refine ql_skip (gw_not rfl rfl g1) rfl ?_
      refine ql_skip (gw_not rfl rfl g1) rfl ?_
      refine ql_skip (gw_not rfl rfl g1) rfl ?_
      refine ql_skip (gw_not rfl rfl g1) rfl ?_
      refine ql_skip (gw_not rfl rfl g1) rfl ?_
      refine ql_skip (gw_not rfl rfl g1) rfl ?_
      refine ql_val gw_none (ov_pick_t rfl g1 rfl) rfl ?_
      refine ql_nil ?_
      refine rl_nil ?_
      refine at_then ?_
      refine ct_true rfl rfl ?_
      refine ct_exit ?_
      refine at_then_exit ?_
      refine at_block_hit ?_
      refine at_then ?_
      refine ct_reg ?_
      refine rl_val gw_none (ov_add rfl rfl (by omega)) rfl ?_
      refine rl_val gw_none (ov_move rfl) rfl ?_
      refine rl_nil ?_
      have hts : trP (ways (-1) xs) st tl R l v (k + 1) = trP (ways (-1) xs) st tl R l v k := by first | exact trP_skip (.inl (by simpa using g1)) | exact trP_skip (.inr (by rw [← et, htw]; omega))
      exact at_backR (k + 1) (by first | exact True.intro | omega | (dsimp only; omega) | (dsimp only at *; omega)) (by first | exact True.intro | omega | (dsimp only; omega) | (dsimp only at *; omega)) (by (repeat' (first | exact Sub.nil | refine Sub.cons ?_ ?_)); all_goals (first | rfl | exact lkInt rfl (by omega))) (Sub.cons rfl (Sub.cons rfl (Sub.cons rfl (Sub.cons rfl (Sub.cons rfl (Sub.cons rfl (Sub.cons rfl (Sub.cons rfl (Sub.cons rfl (Sub.cons rfl Sub.nil)))))))))) (fun _ hp => ((Hp.sub (Hp.pull (Hp.pull (Hp.pull hp 3 rfl) 3 rfl) 3 rfl) (List.sublist_append_left [_, _, _] _))).cong (by rw [hts]; try rfl))
    ·
      have g1' := g1
      try simp only [Bool.not_eq_true', Bool.not_eq_false', Bool.not_not, decide_eq_true_eq, decide_eq_false_iff_not, beq_iff_eq, beq_eq_false_iff_ne, bne_iff_ne, bne_eq_false_iff_eq, Bool.and_eq_true, Bool.or_eq_true, Bool.and_eq_false_iff, Bool.or_eq_false_iff, inB] at g1'
      refine ql_val (gw_some rfl rfl g1) (ov_move rfl) rfl ?_
      refine ql_val (gw_some rfl rfl g1) (ov_field fo44_0 rfl) rfl ?_
      first | refine ql_val (gw_some rfl rfl g1) (ov_load 0 sc3 rfl rfl rfl) rfl ?_ | refine ql_val (gw_some rfl rfl g1) (ov_load 0 sc3 rfl rfl (by assumption)) rfl ?_
      first | refine ql_val (gw_some rfl rfl g1) (ov_ixa Try.underlying72 sz71 rfl rfl _ rfl (by omega)) rfl ?_ | refine ql_val (gw_some rfl rfl g1) (ov_ixa Try.underlying72 sz71 rfl rfl (k) (by omega) (by omega)) rfl ?_ | refine ql_val (gw_some rfl rfl g1) (ov_ixa Try.underlying72 sz71 rfl rfl (t.toNat) (by omega) (by omega)) rfl ?_ | refine ql_val (gw_some rfl rfl g1) (ov_ixa Try.underlying72 sz71 rfl rfl (x.town.toNat) (by omega) (by omega)) rfl ?_
      first | refine ql_val (gw_some rfl rfl g1) (ov_ixa Try.underlying71 sz3 rfl rfl _ rfl (by omega)) rfl ?_ | refine ql_val (gw_some rfl rfl g1) (ov_ixa Try.underlying71 sz3 rfl rfl (k) (by omega) (by omega)) rfl ?_ | refine ql_val (gw_some rfl rfl g1) (ov_ixa Try.underlying71 sz3 rfl rfl (t.toNat) (by omega) (by omega)) rfl ?_ | refine ql_val (gw_some rfl rfl g1) (ov_ixa Try.underlying71 sz3 rfl rfl (x.town.toNat) (by omega) (by omega)) rfl ?_
      refine ql_val (gw_some rfl rfl g1) (ov_load 2 sc3 rfl rfl (g8At hwl hat8 hxt8)) rfl ?_
      refine ql_val (gw_some rfl rfl g1) (ov_geq rfl rfl) rfl ?_
      refine ql_val gw_none (ov_pick_f rfl g1 rfl) rfl ?_
      refine ql_nil ?_
      refine rl_nil ?_
      refine at_then ?_
      first | refine ct_dec rfl (fun h2 => ?_) (fun h2 => ?_) | refine ct_ndec rfl (fun h2 => ?_) (fun h2 => ?_) | refine ct_eq rfl (fun h2 => ?_) (fun h2 => ?_) | refine ct_ne rfl (fun h2 => ?_) (fun h2 => ?_) | refine ct_not rfl (fun h2 => ?_) (fun h2 => ?_) | refine ct_cond rfl (fun h2 => ?_) (fun h2 => ?_)
      ·
        refine ct_exit ?_
        refine at_then_exit ?_
        refine at_block_hit ?_
        refine at_then ?_
        refine ct_reg ?_
        refine rl_val gw_none (ov_add rfl rfl (by omega)) rfl ?_
        refine rl_val gw_none (ov_move rfl) rfl ?_
        refine rl_nil ?_
        have hts : trP (ways (-1) xs) st tl R l v (k + 1) = trP (ways (-1) xs) st tl R l v k := by first | exact trP_skip (.inl (by simpa using g1)) | exact trP_skip (.inr (by rw [← et, htw]; omega))
        exact at_backR (k + 1) (by first | exact True.intro | omega | (dsimp only; omega) | (dsimp only at *; omega)) (by first | exact True.intro | omega | (dsimp only; omega) | (dsimp only at *; omega)) (by (repeat' (first | exact Sub.nil | refine Sub.cons ?_ ?_)); all_goals (first | rfl | exact lkInt rfl (by omega))) (Sub.cons rfl (Sub.cons rfl (Sub.cons rfl (Sub.cons rfl (Sub.cons rfl (Sub.cons rfl (Sub.cons rfl (Sub.cons rfl (Sub.cons rfl (Sub.cons rfl Sub.nil)))))))))) (fun _ hp => ((Hp.sub (Hp.pull (Hp.pull (Hp.pull hp 3 rfl) 3 rfl) 3 rfl) (List.sublist_append_left [_, _, _] _))).cong (by rw [hts]; try rfl))
      ·
        have hno : hasL l (k : Int) = false := by simpa using g1
        have hfar : g8 (ways (-1) xs) (daF (ways (-1) xs) st l).2.toNat (tw st (k : Int)).toNat < 1000000 := by rw [← et, htw]; omega
        have hl2 := OrdR.snoc hR hsB hl hk2 hno hfar
        have hda := daF_app (ways (-1) xs) st l (k : Int)
        have et2 : x.town = (daF (ways (-1) xs) st (l ++ [(k : Int)])).2 := by rw [hda]; exact htw.symm
        have ed2 : d + g8 (ways (-1) xs) t.toNat x.town.toNat + x.days = (daF (ways (-1) xs) st (l ++ [(k : Int)])).1 := by rw [hda, ed, et, ← htw, ← hdy]; rfl
        have ef2 : f + x.fee = feeL st (l ++ [(k : Int)]) := by rw [feeL_app, ← ef, hfe]
        have ec2 : c + 1 = ((l ++ [(k : Int)]).length : Int) := by rw [ec]; simp
        have hkq : l.length + 1 ≤ st.length := by have := hl2.len; simpa using this
        refine ct_skip ?_
        refine at_then ?_
        refine ct_seq ?_
        refine ct_reg ?_
        refine rl_val gw_none (ov_move rfl) rfl ?_
        refine rl_val gw_none (ov_move rfl) rfl ?_
        first | refine rl_val gw_none (ov_ix Try.underlying74 sz4 rfl rfl _ rfl (by omega)) rfl ?_ | refine rl_val gw_none (ov_ix Try.underlying74 sz4 rfl rfl (k) (by omega) (by omega)) rfl ?_ | refine rl_val gw_none (ov_ix Try.underlying74 sz4 rfl rfl (t.toNat) (by omega) (by omega)) rfl ?_ | refine rl_val gw_none (ov_ix Try.underlying74 sz4 rfl rfl (x.town.toNat) (by omega) (by omega)) rfl ?_
        refine rl_store [_, _, _] sz4 rfl rfl rfl rfl rfl (by rw [bls_flg_len]; omega) ?_
        refine rl_mem (fun _ hq => hq.cong (congrArg (fun x => _ :: _ :: _ :: (_, _, x) :: _) (flg_put hk2 (by omega)))) ?_
        refine rl_nil ?_
        refine at_then ?_
        refine ct_seq ?_
        refine ct_dr 23 (by kernel_rfl) (by kernel_rfl) ?_
        refine ql_val gw_none (ov_loadall 2 ag72 rfl rfl (by rw [ints_length]; exact hwl)) rfl ?_
        refine ql_val gw_none (ov_move rfl) rfl ?_
        refine ql_val gw_none (ov_move rfl) rfl ?_
        refine ql_val gw_none (ov_field fo44_0 rfl) rfl ?_
        first | refine ql_val gw_none (ov_load 0 sc3 rfl rfl rfl) rfl ?_ | refine ql_val gw_none (ov_load 0 sc3 rfl rfl (by assumption)) rfl ?_
        refine ql_val gw_none (ov_move rfl) rfl ?_
        refine ql_val gw_none (ov_move rfl) rfl ?_
        refine ql_val gw_none (ov_field fo44_0 rfl) rfl ?_
        first | refine ql_val gw_none (ov_load 0 sc3 rfl rfl rfl) rfl ?_ | refine ql_val gw_none (ov_load 0 sc3 rfl rfl (by assumption)) rfl ?_
        first | refine ql_val gw_none (ov_ixa Try.underlying72 sz71 rfl rfl _ rfl (by omega)) rfl ?_ | refine ql_val gw_none (ov_ixa Try.underlying72 sz71 rfl rfl (k) (by omega) (by omega)) rfl ?_ | refine ql_val gw_none (ov_ixa Try.underlying72 sz71 rfl rfl (t.toNat) (by omega) (by omega)) rfl ?_ | refine ql_val gw_none (ov_ixa Try.underlying72 sz71 rfl rfl (x.town.toNat) (by omega) (by omega)) rfl ?_
        first | refine ql_val gw_none (ov_ixa Try.underlying71 sz3 rfl rfl _ rfl (by omega)) rfl ?_ | refine ql_val gw_none (ov_ixa Try.underlying71 sz3 rfl rfl (k) (by omega) (by omega)) rfl ?_ | refine ql_val gw_none (ov_ixa Try.underlying71 sz3 rfl rfl (t.toNat) (by omega) (by omega)) rfl ?_ | refine ql_val gw_none (ov_ixa Try.underlying71 sz3 rfl rfl (x.town.toNat) (by omega) (by omega)) rfl ?_
        refine ql_val gw_none (ov_load 2 sc3 rfl rfl (g8At hwl hat8 hxt8)) rfl ?_
        refine ql_val gw_none (ov_add rfl rfl (by omega)) rfl ?_
        refine ql_val gw_none (ov_field fo44_1 rfl) rfl ?_
        first | refine ql_val gw_none (ov_load 0 sc3 rfl rfl rfl) rfl ?_ | refine ql_val gw_none (ov_load 0 sc3 rfl rfl (by assumption)) rfl ?_
        refine ql_val gw_none (ov_add rfl rfl (by omega)) rfl ?_
        refine ql_val gw_none (ov_move rfl) rfl ?_
        refine ql_val gw_none (ov_field fo44_2 rfl) rfl ?_
        first | refine ql_val gw_none (ov_load 0 sc3 rfl rfl rfl) rfl ?_ | refine ql_val gw_none (ov_load 0 sc3 rfl rfl (by assumption)) rfl ?_
        refine ql_val gw_none (ov_add rfl rfl (by omega)) rfl ?_
        refine ql_val gw_none (ov_move rfl) rfl ?_
        refine ql_val gw_none (ov_add rfl rfl (by omega)) rfl ?_
        refine ql_val gw_none (ov_move rfl) rfl ?_
        refine ql_nil ?_
        refine rl_calld (ι := Unit) (fun _ => .tuple #[]) [_, _] [_, _] (fun _ => [(some bT, 3, [.int .i64 (R (l ++ [(k : Int)]) (trP (ways (-1) xs) st tl R l v k))]), (some hb, 4, bls (flg st.length (l ++ [(k : Int)])))]) (fun _ => True) gw_none goes46 rfl (fun _ hq => ((hq).pull 3 rfl).pull 2 rfl) (fun w1 hp h0 => ih (kk - 1) (by omega) (l ++ [(k : Int)]) _ _ _ _ _ hb bT _ _ _ h0 hl2 (by rw [List.length_append, List.length_singleton]; omega) et2 ed2 ef2 ec2 (hsd.call hp (by simp)) (hT.call (Hp.sub (Hp.pull (Hp.pull hp 3 rfl) 2 rfl) (List.sublist_append_left [_, _] _)))) rfl (fun _ _ => ?_)
        refine rl_nil ?_
        refine at_then ?_
        refine ct_reg ?_
        refine rl_val gw_none (ov_move rfl) rfl ?_
        refine rl_val gw_none (ov_move rfl) rfl ?_
        first | refine rl_val gw_none (ov_ix Try.underlying74 sz4 rfl rfl _ rfl (by omega)) rfl ?_ | refine rl_val gw_none (ov_ix Try.underlying74 sz4 rfl rfl (k) (by omega) (by omega)) rfl ?_ | refine rl_val gw_none (ov_ix Try.underlying74 sz4 rfl rfl (t.toNat) (by omega) (by omega)) rfl ?_ | refine rl_val gw_none (ov_ix Try.underlying74 sz4 rfl rfl (x.town.toNat) (by omega) (by omega)) rfl ?_
        refine rl_store [_] sz4 rfl rfl rfl rfl rfl (by rw [bls_flg_len]; omega) ?_
        refine rl_mem (fun _ hq => hq.cong (congrArg (fun x => _ :: (_, _, x) :: _) (flg_clr hk2 (by omega) hno))) ?_
        refine rl_nil ?_
        refine at_block ?_
        refine at_then ?_
        refine ct_reg ?_
        refine rl_val gw_none (ov_add rfl rfl (by omega)) rfl ?_
        refine rl_val gw_none (ov_move rfl) rfl ?_
        refine rl_nil ?_
        have hts := trP_go (tl := tl) (R := R) (v := v) hno hfar
        exact at_backR (k + 1) (by first | exact True.intro | omega | (dsimp only; omega) | (dsimp only at *; omega)) (by first | exact True.intro | omega | (dsimp only; omega) | (dsimp only at *; omega)) (by (repeat' (first | exact Sub.nil | refine Sub.cons ?_ ?_)); all_goals (first | rfl | exact lkInt rfl (by omega))) (Sub.cons rfl (Sub.cons rfl (Sub.cons rfl (Sub.cons rfl (Sub.cons rfl (Sub.cons rfl (Sub.cons rfl (Sub.cons rfl (Sub.cons rfl (Sub.cons rfl Sub.nil)))))))))) (fun _ hp => ((Hp.sub (Hp.pull (Hp.pull (Hp.pull hp 1 rfl) 3 rfl) 2 rfl) (List.sublist_append_left [_, _, _] _))).cong (by rw [hts]; try rfl))
  ·
    have hke : k = st.length := by omega
    subst hke
    refine ct_exit ?_
    refine at_then_exit ?_
    refine at_then_exit ?_
    refine at_block_hit ?_
    refine at_end ?_
    refine at_ret0 Try.results46 (fun w1 hp => ?_)
    exact ⟨(), trivial, rfl, (Hp.sub (Hp.pull (Hp.pull hp 2 rfl) 1 rfl) (List.sublist_append_left [_, _] _))⟩

theorem toursO_all (xs : List Road) (st : List Stay) (tl : Int → Int → Int → Int → Int) (fT : FuncId) (caps : List Value) (hgo : Goes Try.prog fT) (hR : OkR xs) (hsB : staysB st = true) : ∀ kk, ToursQ xs st tl fT caps (trO (ways (-1) xs) st tl kk) kk
  | 0 => fun l v t d f c hb bT lv D w h0 hl hkk et ed ef ec hsd hT => tours_w xs st tl fT caps hgo hR hsB _ 0 (fun q hq => by omega) l v t d f c hb bT lv D w h0 hl hkk et ed ef ec hsd hT
  | kk + 1 => fun l v t d f c hb bT lv D w h0 hl hkk et ed ef ec hsd hT => tours_w xs st tl fT caps hgo hR hsB _ (kk + 1) (fun q hq => by obtain rfl : q = kk := by omega
                                                                                                                                          exact toursO_all xs st tl fT caps hgo hR hsB q) l v t d f c hb bT lv D w h0 hl hkk et ed ef ec hsd hT
end Go.Proofs.Ytgnnlgmeagipjaa
set_option linter.unusedVariables false
set_option linter.unusedSimpArgs false
namespace Go.Proofs.Ytgnnlgmeagipjaa
open Go Go.RowKit K
theorem tellF_c (n : Nat) (a : Option Addr) (capx bL bT : Nat) (v d f c : Int) (D : List Nat) (w : World) (h0 : Hp ⟨w, D⟩ [(some bT, 3, [.int .i64 v])] w) (hL : w.cell? ⟨bL, 0, none⟩ = some (.slice a n capx)) (hbD : bL ∉ D) : Calls Try.prog 48 ([.int .i64 d, .int .i64 f, .int .i64 c, .pointer (some ⟨bL, 0, none⟩), .pointer (some ⟨bT, 0, none⟩)]).toArray w (fun e w' => ∃ _ : Unit, True ∧ e = .returned (.tuple #[]) ∧ Hp ⟨w, D⟩ [(some bT, 3, [.int .i64 (tlF n v d f c)])] w') := by
  refine calls_ctds h0 Try.func48 Try.ntmps48 rfl rfl ?_
  refine ct_seq ?_
  refine ct_reg ?_
  refine rl_val gw_none (ov_move rfl) rfl ?_
  refine rl_val gw_none (ov_loadwd sc30 rfl hL hbD) rfl ?_
  refine rl_val gw_none (ov_len Try.underlying30 rfl) rfl ?_
  refine rl_val gw_none (ov_eql rfl rfl) rfl ?_
  refine rl_val gw_none (ov_move rfl) rfl ?_
  refine rl_split (t := 12) rfl (fun g1 => ?_) (fun g1 => ?_)
  ·
    have g1' := g1
    try simp only [Bool.not_eq_true', Bool.not_eq_false', Bool.not_not, decide_eq_true_eq, decide_eq_false_iff_not, beq_iff_eq, beq_eq_false_iff_ne, bne_iff_ne, bne_eq_false_iff_eq, Bool.and_eq_true, Bool.or_eq_true, Bool.and_eq_false_iff, Bool.or_eq_false_iff, inB] at g1'
    first | refine rl_val (gw_some rfl rfl g1) (ov_load 0 sc3 rfl rfl rfl) rfl ?_ | refine rl_val (gw_some rfl rfl g1) (ov_load 0 sc3 rfl rfl (by assumption)) rfl ?_
    refine rl_val (gw_some rfl rfl g1) (ov_lss rfl rfl) rfl ?_
    refine rl_val (gw_some rfl rfl g1) (ov_move rfl) rfl ?_
    refine rl_split (t := 15) rfl (fun g2 => ?_) (fun g2 => ?_)
    ·
      have g2' := g2
      try simp only [Bool.not_eq_true', Bool.not_eq_false', Bool.not_not, decide_eq_true_eq, decide_eq_false_iff_not, beq_iff_eq, beq_eq_false_iff_ne, bne_iff_ne, bne_eq_false_iff_eq, Bool.and_eq_true, Bool.or_eq_true, Bool.and_eq_false_iff, Bool.or_eq_false_iff, inB] at g2'
      refine rl_skip (gw_not rfl rfl g2) rfl ?_
      refine rl_skip (gw_not rfl rfl g2) rfl ?_
      refine rl_skip (gw_not rfl rfl g2) rfl ?_
      refine rl_val (gw_some rfl rfl g1) (ov_pick_t rfl g2 rfl) rfl ?_
      refine rl_val gw_none (ov_pick_t rfl g1 rfl) rfl ?_
      refine rl_nil ?_
      refine at_then ?_
      refine ct_true rfl rfl ?_
      refine ct_reg ?_
      refine rl_val gw_none (ov_move rfl) rfl ?_
      refine rl_store [] sz3 rfl rfl rfl rfl rfl (Nat.le_of_ble_eq_true rfl) ?_
      refine rl_nil ?_
      refine at_end ?_
      refine at_ret0 Try.results48 (fun w1 hp => ?_)
      refine ⟨(), trivial, rfl, hp.cong ?_⟩
      first | (rw [tlF_yes (by omega) (by omega)]; rfl) | (rw [tlF_no (by omega)]; try rfl)
    ·
      have g2' := g2
      try simp only [Bool.not_eq_true', Bool.not_eq_false', Bool.not_not, decide_eq_true_eq, decide_eq_false_iff_not, beq_iff_eq, beq_eq_false_iff_ne, bne_iff_ne, bne_eq_false_iff_eq, Bool.and_eq_true, Bool.or_eq_true, Bool.and_eq_false_iff, Bool.or_eq_false_iff, inB] at g2'
      refine rl_val (gw_some rfl rfl g2) (ov_move rfl) rfl ?_
      first | refine rl_val (gw_some rfl rfl g2) (ov_load 0 sc3 rfl rfl rfl) rfl ?_ | refine rl_val (gw_some rfl rfl g2) (ov_load 0 sc3 rfl rfl (by assumption)) rfl ?_
      refine rl_val (gw_some rfl rfl g2) (ov_lss rfl rfl) rfl ?_
      refine rl_val (gw_some rfl rfl g1) (ov_pick_f rfl g2 rfl) rfl ?_
      refine rl_val gw_none (ov_pick_t rfl g1 rfl) rfl ?_
      refine rl_nil ?_
      refine at_then ?_
      first | refine ct_dec rfl (fun h1 => ?_) (fun h1 => ?_) | refine ct_ndec rfl (fun h1 => ?_) (fun h1 => ?_) | refine ct_eq rfl (fun h1 => ?_) (fun h1 => ?_) | refine ct_ne rfl (fun h1 => ?_) (fun h1 => ?_) | refine ct_not rfl (fun h1 => ?_) (fun h1 => ?_) | refine ct_cond rfl (fun h1 => ?_) (fun h1 => ?_)
      ·
        refine ct_reg ?_
        refine rl_val gw_none (ov_move rfl) rfl ?_
        refine rl_store [] sz3 rfl rfl rfl rfl rfl (Nat.le_of_ble_eq_true rfl) ?_
        refine rl_nil ?_
        refine at_end ?_
        refine at_ret0 Try.results48 (fun w1 hp => ?_)
        refine ⟨(), trivial, rfl, hp.cong ?_⟩
        first | (rw [tlF_yes (by omega) (by omega)]; rfl) | (rw [tlF_no (by omega)]; try rfl)
      ·
        refine ct_skip ?_
        refine at_end ?_
        refine at_ret0 Try.results48 (fun w1 hp => ?_)
        refine ⟨(), trivial, rfl, hp.cong ?_⟩
        first | (rw [tlF_yes (by omega) (by omega)]; rfl) | (rw [tlF_no (by omega)]; try rfl)
  ·
    have g1' := g1
    try simp only [Bool.not_eq_true', Bool.not_eq_false', Bool.not_not, decide_eq_true_eq, decide_eq_false_iff_not, beq_iff_eq, beq_eq_false_iff_ne, bne_iff_ne, bne_eq_false_iff_eq, Bool.and_eq_true, Bool.or_eq_true, Bool.and_eq_false_iff, Bool.or_eq_false_iff, inB] at g1'
    refine rl_skip (gw_not rfl rfl g1) rfl ?_
    refine rl_skip (gw_not rfl rfl g1) rfl ?_
    refine rl_skip (gw_not rfl rfl g1) rfl ?_
    refine rl_skip (gw_undef rfl rfl) rfl ?_
    refine rl_skip (gw_undef rfl rfl) rfl ?_
    refine rl_skip (gw_undef rfl rfl) rfl ?_
    refine rl_skip (gw_not rfl rfl g1) rfl ?_
    refine rl_val gw_none (ov_pick_f rfl g1 rfl) rfl ?_
    refine rl_nil ?_
    refine at_then ?_
    refine ct_false rfl rfl ?_
    refine ct_skip ?_
    refine at_end ?_
    refine at_ret0 Try.results48 (fun w1 hp => ?_)
    refine ⟨(), trivial, rfl, hp.cong ?_⟩
    first | (rw [tlF_yes (by omega) (by omega)]; rfl) | (rw [tlF_no (by omega)]; try rfl)

theorem tellB_c (days : Int) (bL bT : Nat) (v d f c : Int) (D : List Nat) (w : World) (h0 : Hp ⟨w, D⟩ [(some bT, 3, [.int .i64 v])] w) (hL : w.cell? ⟨bL, 0, none⟩ = some (.int .i64 days)) (hbD : bL ∉ D) : Calls Try.prog 54 ([.int .i64 d, .int .i64 f, .int .i64 c, .pointer (some ⟨bL, 0, none⟩), .pointer (some ⟨bT, 0, none⟩)]).toArray w (fun e w' => ∃ _ : Unit, True ∧ e = .returned (.tuple #[]) ∧ Hp ⟨w, D⟩ [(some bT, 3, [.int .i64 (tlB days v d f c)])] w') := by
  refine calls_ctds h0 Try.func54 Try.ntmps54 rfl rfl ?_
  refine ct_seq ?_
  refine ct_reg ?_
  refine rl_val gw_none (ov_move rfl) rfl ?_
  refine rl_val gw_none (ov_loadwd sc3 rfl hL hbD) rfl ?_
  refine rl_val gw_none (ov_leq rfl rfl) rfl ?_
  refine rl_nil ?_
  refine at_then ?_
  first | refine ct_dec rfl (fun h1 => ?_) (fun h1 => ?_) | refine ct_ndec rfl (fun h1 => ?_) (fun h1 => ?_) | refine ct_eq rfl (fun h1 => ?_) (fun h1 => ?_) | refine ct_ne rfl (fun h1 => ?_) (fun h1 => ?_) | refine ct_not rfl (fun h1 => ?_) (fun h1 => ?_) | refine ct_cond rfl (fun h1 => ?_) (fun h1 => ?_)
  ·
    refine ct_reg ?_
    first | refine rl_val gw_none (ov_load 0 sc3 rfl rfl rfl) rfl ?_ | refine rl_val gw_none (ov_load 0 sc3 rfl rfl (by assumption)) rfl ?_
    refine rl_val gw_none (ov_move rfl) rfl ?_
    refine rl_val gw_none (ov_max rfl rfl) rfl ?_
    refine rl_store [] sz3 rfl rfl rfl rfl rfl (Nat.le_of_ble_eq_true rfl) ?_
    refine rl_nil ?_
    refine at_end ?_
    refine at_ret0 Try.results54 (fun w1 hp => ?_)
    refine ⟨(), trivial, rfl, hp.cong ?_⟩
    first | (rw [tlB_yes (by omega)]; rfl) | (rw [tlB_no (by omega)]; try rfl)
  ·
    refine ct_skip ?_
    refine at_end ?_
    refine at_ret0 Try.results54 (fun w1 hp => ?_)
    refine ⟨(), trivial, rfl, hp.cong ?_⟩
    first | (rw [tlB_yes (by omega)]; rfl) | (rw [tlB_no (by omega)]; try rfl)

theorem tellF_ok (n : Nat) (a : Option Addr) (capx bL bT hb : Nat) (D : List Nat) (w : World) (hL : w.cell? ⟨bL, 0, none⟩ = some (.slice a n capx)) (hbD : bL ∉ D) (hbT : bL ≠ bT) : TellOK 48 [.pointer (some ⟨bL, 0, none⟩), .pointer (some ⟨bT, 0, none⟩)] (tlF n) bT hb D w := fun w1 v hs h1 d f c =>
  tellF_c n a capx bL bT v d f c [bT] w1 (h1.sub ((List.nil_sublist _).cons_cons _)).self (h1.oldD hL hbD) (by simpa using hbT)
theorem tellB_ok (days : Int) (bL bT hb : Nat) (D : List Nat) (w : World) (hL : w.cell? ⟨bL, 0, none⟩ = some (.int .i64 days)) (hbD : bL ∉ D) (hbT : bL ≠ bT) : TellOK 54 [.pointer (some ⟨bL, 0, none⟩), .pointer (some ⟨bT, 0, none⟩)] (tlB days) bT hb D w := fun w1 v hs h1 d f c =>
  tellB_c days bL bT v d f c [bT] w1 (h1.sub ((List.nil_sublist _).cons_cons _)).self (h1.oldD hL hbD) (by simpa using hbT)
end Go.Proofs.Ytgnnlgmeagipjaa
