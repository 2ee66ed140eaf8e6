/- The museum: the oldest of a land, texts, what the law of exhibits says (plain). By an AI agent. -/
import Derived.Test.YtfelindekikaeaaIa
import Derived.Test.YtfelindekikaeaaQa
set_option linter.unusedVariables false
set_option linter.unusedSimpArgs false
namespace Go.Proofs.Ytfelindekikaeaa
open Go Go.RowKit K

theorem resAt_hit {α β : Type} {ok : Bool} {p : α → Bool} {xs : List α} {f : α → β} {z : β} {r : α} {k : Nat} (h : ok = true) (hr : xs[k]? = some r) (hp : p r = true) (hall : ∀ j, j < k → ∀ y, xs[j]? = some y → p y = false) : resAt ok p xs f z = (f r, true) := by
  have hf := findP_hit hr hp hall
  exact resAt_yes h (by rw [hf]; omega) (by rw [hf, Int.toNat_natCast]; exact hr)
theorem resAt_none {α β : Type} {ok : Bool} {p : α → Bool} {xs : List α} {f : α → β} {z : β} (hall : ∀ j, j < xs.length → ∀ y, xs[j]? = some y → p y = false) : resAt ok p xs f z = (z, false) :=
  resAt_miss (by rw [findP_miss hall]; decide)
def byLand (s : ByteArray) (x : Exhibit) : Bool := x.land.toList == s.toList
def oldR (xs : List Exhibit) (s : ByteArray) : Int × Bool := resAt (exhsB xs) (byLand s) (ageL xs) (fun x => x.id) 0
def grtR (x : Exhibit) : Int := if exhB x = true then (if 5 * x.upper + x.lower < 9 then 5 * x.upper + x.lower else 9) else 0
theorem grtR_yes {x : Exhibit} (h : exhB x = true) : grtR x = if 5 * x.upper + x.lower < 9 then 5 * x.upper + x.lower else 9 := by rw [grtR, if_pos h]
theorem grtR_no {x : Exhibit} (h : exhB x = false) : grtR x = 0 := by rw [grtR, if_neg (by rw [h]; simp)]
theorem grtR_le (x : Exhibit) : ¬ grtR x > 9 := by unfold grtR; split <;> (try split) <;> omega

/-! ### The order by age is ascending -/
theorem insQ_at {gt : Exhibit → Exhibit → Bool} {out : List Exhibit} {r : Exhibit} : ∀ (n : Nat) (j : Nat) (y : Exhibit), insQ gt out r n ≤ j → j < n → out[j]? = some y → gt y r = true
  | 0, j, y, _, h, _ => absurd h (Nat.not_lt_zero j)
  | n + 1, j, y, h1, h2, hy => by
    rw [insQ] at h1
    split at h1
    · rename_i z hz
      split at h1
      · rename_i hg
        by_cases hj : j = n
        · subst hj; rw [hz] at hy; obtain rfl := Option.some.inj hy; exact hg
        · exact insQ_at n j y h1 (by omega) hy
      · omega
    · omega
theorem insQ_before {gt : Exhibit → Exhibit → Bool} {out : List Exhibit} {r : Exhibit} : ∀ (n : Nat), n ≤ out.length → insQ gt out r n = 0 ∨ ∃ y, out[insQ gt out r n - 1]? = some y ∧ gt y r = false
  | 0, _ => .inl rfl
  | n + 1, h => by
    have hz := getLt (show n < out.length by omega)
    cases hg : gt out[n] r with
    | true => rw [insQ_yes hz hg]; exact insQ_before n (by omega)
    | false => rw [insQ_no hz hg]; exact .inr ⟨_, hz, hg⟩
def ageS (l : List Exhibit) : Prop := l.Pairwise fun x y => x.made ≤ y.made
theorem ageS_at {l : List Exhibit} (h : ageS l) {i j : Nat} {x y : Exhibit} (hij : i ≤ j) (hx : l[i]? = some x) (hy : l[j]? = some y) : x.made ≤ y.made := by
  by_cases he : i = j
  · subst he; rw [hx] at hy; obtain rfl := Option.some.inj hy; exact Int.le_refl _
  · obtain ⟨hi, rfl⟩ := List.getElem?_eq_some_iff.1 hx
    obtain ⟨hj, rfl⟩ := List.getElem?_eq_some_iff.1 hy
    exact List.pairwise_iff_getElem.1 h i j hi hj (by omega)
theorem ageS_ins {out : List Exhibit} {r : Exhibit} (h : ageS out) : ageS (insO ageG out r) := by
  unfold insO
  have hle := insQ_le ageG out r out.length
  have hat := fun j y => insQ_at (gt := ageG) (out := out) (r := r) out.length j y
  have hbe := insQ_before (gt := ageG) (out := out) (r := r) out.length (Nat.le_refl _)
  generalize insQ ageG out r out.length = q at *
  have h1 : ∀ x ∈ out.take q, x.made ≤ r.made := fun x hx => by
    obtain ⟨j, hj⟩ := List.mem_iff_getElem?.1 hx
    have hjl := (List.getElem?_eq_some_iff.1 hj).1
    rw [List.length_take] at hjl
    rw [List.getElem?_take_of_lt (by omega)] at hj
    rcases hbe with e | ⟨y, hy, hg⟩
    · omega
    · have := ageS_at h (show j ≤ q - 1 by omega) hj hy
      have := of_decide_eq_false hg
      omega
  have h2 : ∀ x ∈ out.drop q, r.made ≤ x.made := fun x hx => by
    obtain ⟨j, hj⟩ := List.mem_iff_getElem?.1 hx
    rw [List.getElem?_drop] at hj
    have hl := (List.getElem?_eq_some_iff.1 hj).1
    have := of_decide_eq_true (hat (q + j) x (by omega) hl hj)
    omega
  unfold ageS at *
  rw [List.append_assoc, List.pairwise_append]
  refine ⟨h.sublist (List.take_sublist _ _), ?_, fun a ha b hb => ?_⟩
  · show (r :: out.drop q).Pairwise _
    rw [List.pairwise_cons]
    exact ⟨fun b hb => h2 b hb, h.sublist (List.drop_sublist _ _)⟩
  · have hbr : b = r ∨ b ∈ out.drop q := by simpa using hb
    rcases hbr with rfl | hb
    · exact h1 a ha
    · have := h1 a ha; have := h2 b hb; omega
theorem ageS_ord (xs : List Exhibit) : ageS (ageL xs) := by
  have key : ∀ (xs out : List Exhibit), ageS out → ageS (xs.foldl (insO ageG) out) := by
    intro xs
    induction xs with
    | nil => intro out h; exact h
    | cons x xs ih => intro out h; exact ih _ (ageS_ins h)
  exact key xs [] List.Pairwise.nil

/-! ### Numbers are told apart -/
theorem id_lt {xs : List Exhibit} (h : exhsB xs = true) : ∀ (d i : Nat) (x y : Exhibit), xs[i]? = some x → xs[i + (d + 1)]? = some y → x.id < y.id
  | 0, i, x, y, hx, hy => by
    have hi := (List.getElem?_eq_some_iff.1 hy).1
    have hs := exhsB_steps h _ hi
    rw [exhStep_eq hy (show xs[i + (0 + 1) - 1]? = some x by rw [show i + (0 + 1) - 1 = i by omega]; exact hx)] at hs
    simp only [Bool.and_eq_true, Bool.or_eq_true, decide_eq_true_eq] at hs
    omega
  | d + 1, i, x, y, hx, hy => by
    have hi := (List.getElem?_eq_some_iff.1 hy).1
    have hz := getLt (show i + (d + 1) < xs.length by omega)
    have h1 := id_lt h d i x _ hx hz
    have h2 := id_lt h 0 (i + (d + 1)) _ y hz (by rw [show i + (d + 1) + (0 + 1) = i + (d + 1 + 1) by omega]; exact hy)
    omega
theorem id_at {xs : List Exhibit} (h : exhsB xs = true) {i j : Nat} {x y : Exhibit} (hx : xs[i]? = some x) (hy : xs[j]? = some y) (he : x.id = y.id) : i = j := by
  rcases Nat.lt_trichotomy i j with hl | hl | hl
  · have := id_lt h (j - i - 1) i x y hx (by rw [show i + (j - i - 1 + 1) = j by omega]; exact hy); omega
  · exact hl
  · have := id_lt h (i - j - 1) j y x hy (by rw [show j + (i - j - 1 + 1) = i by omega]; exact hx); omega
theorem id_eq {xs : List Exhibit} (h : exhsB xs = true) {x y : Exhibit} (hx : x ∈ xs) (hy : y ∈ xs) (he : x.id = y.id) : x = y := by
  obtain ⟨i, hi⟩ := List.mem_iff_getElem?.1 hx
  obtain ⟨j, hj⟩ := List.mem_iff_getElem?.1 hy
  obtain rfl := id_at h hi hj he
  rw [hi] at hj; exact Option.some.inj hj

/-! ### The first land -/
theorem landQ_zero {made : List Int} {out : List ByteArray} {x : Exhibit} : ∀ k, landQ made out x (k + 1) = 0 → made[0]? = some x.made
  | 0, h => by
    rw [landQ] at h
    split at h
    · rename_i m s hm hs
      split at h
      · rename_i hc
        simp only [Bool.and_eq_true, beq_iff_eq] at hc
        rw [hm, hc.1]
      · omega
    · omega
  | k + 1, h => by
    rw [landQ] at h
    split at h
    · split at h
      · exact landQ_zero k h
      · omega
    · omega
def LandI (ys : List Exhibit) (p : List ByteArray × List Int) : Prop := ∃ s m, p.1[0]? = some s ∧ p.2[0]? = some m ∧ ys[0]?.map (fun y => y.made) = some m ∧ ∃ y ∈ ys, y.land = s ∧ y.made = m
theorem landF_first {ys : List Exhibit} (hne : 0 < ys.length) : ∀ k, k < ys.length → LandI ys (landF (ys.take (k + 1)))
  | 0, h => by
    have hx := getLt h
    rw [landF_new hx rfl]
    refine ⟨ys[0].land, ys[0].made, rfl, rfl, by rw [hx]; rfl, ys[0], List.getElem_mem h, rfl, rfl⟩
  | k + 1, h => by
    obtain ⟨s, m, h1, h2, h3, y, hy, hys, hym⟩ := landF_first hne k (by omega)
    have hx := getLt h
    cases hm : memB ys[k + 1].land (landF (ys.take (k + 1))).1 with
    | true => rw [landF_known hx hm]; exact ⟨s, m, h1, h2, h3, y, hy, hys, hym⟩
    | false =>
      rw [landF_new hx hm]
      have hl1 := (List.getElem?_eq_some_iff.1 h1).1
      have hl2 := (List.getElem?_eq_some_iff.1 h2).1
      have h22 : ((landF (ys.take (k + 1))).2 ++ [ys[k + 1].made])[0]? = some m := by rw [List.getElem?_append_left hl2]; exact h2
      by_cases hq : landQ (landF (ys.take (k + 1))).2 (landF (ys.take (k + 1))).1 ys[k + 1] (landF (ys.take (k + 1))).1.length = 0
      · obtain ⟨n, hn⟩ : ∃ n, (landF (ys.take (k + 1))).1.length = n + 1 := ⟨_, (Nat.succ_pred_eq_of_pos hl1).symm⟩
        have h0 := landQ_zero n (by rw [← hn]; exact hq)
        rw [h2] at h0
        have hmm := Option.some.inj h0
        refine ⟨ys[k + 1].land, m, ?_, h22, h3, ys[k + 1], List.getElem_mem h, rfl, hmm.symm⟩
        unfold landI; rw [hq]; rfl
      · refine ⟨s, m, ?_, h22, h3, y, hy, hys, hym⟩
        unfold landI
        have hle := landQ_le (landF (ys.take (k + 1))).2 (landF (ys.take (k + 1))).1 ys[k + 1] (landF (ys.take (k + 1))).1.length
        rw [List.append_assoc, List.getElem?_append_left (by rw [List.length_take]; omega), List.getElem?_take_of_lt (by omega)]
        exact h1
theorem memB_ins {s : ByteArray} {made : List Int} {out : List ByteArray} {x : Exhibit} : memB s (landI made out x) = (memB s out || (x.land.toList == s.toList)) := by
  unfold memB landI
  generalize landQ made out x out.length = q
  rw [List.any_append, List.any_append]
  conv => rhs; rw [← List.take_append_drop q out, List.any_append]
  simp only [List.any_cons, List.any_nil, Bool.or_false]
  cases (out.take q).any (fun t => t.toList == s.toList) <;> cases (out.drop q).any (fun t => t.toList == s.toList) <;> cases (x.land.toList == s.toList) <;> rfl
theorem memB_self (x : Exhibit) (made : List Int) (out : List ByteArray) : memB x.land (landI made out x) = true := by rw [memB_ins]; simp
theorem landF_all {ys : List Exhibit} : ∀ k, k ≤ ys.length → ∀ (j : Nat) (y : Exhibit), j < k → ys[j]? = some y → memB y.land (landF (ys.take k)).1 = true
  | 0, _, j, y, hj, _ => absurd hj (Nat.not_lt_zero j)
  | k + 1, hk, j, y, hj, hy => by
    have hx := getLt (show k < ys.length by omega)
    cases hm : memB ys[k].land (landF (ys.take k)).1 with
    | true =>
      rw [landF_known hx hm]
      by_cases hjk : j = k
      · subst hjk; rw [hx] at hy; obtain rfl := Option.some.inj hy; exact hm
      · exact landF_all k (by omega) j y (by omega) hy
    | false =>
      rw [landF_new hx hm]
      by_cases hjk : j = k
      · subst hjk; rw [hx] at hy; obtain rfl := Option.some.inj hy; exact memB_self _ _ _
      · show memB y.land (landI _ _ _) = true
        rw [memB_ins, landF_all k (by omega) j y (by omega) hy]; rfl
theorem lands_all {xs : List Exhibit} (h : exhsB xs = true) {y : Exhibit} (hy : y ∈ xs) : memB y.land (landsR xs) = true := by
  obtain ⟨j, hj⟩ := List.mem_iff_getElem?.1 ((ordG_mem (gt := ageG)).2 hy)
  have := landF_all (ageL xs).length (Nat.le_refl _) j y (List.getElem?_eq_some_iff.1 hj).1 hj
  rw [List.take_length] at this
  rw [landsR_yes h]; exact this
/-- The first land's oldest exhibit is the oldest of all. -/
theorem lands_first {xs : List Exhibit} {s : ByteArray} (hs : (landsR xs)[0]? = some s) : exhsB xs = true ∧ (∃ z ∈ xs, z.land = s) ∧ ∃ y ∈ xs, oldR xs s = (y.id, true) ∧ ∀ z ∈ xs, y.made ≤ z.made := by
  have hok : exhsB xs = true := by
    cases h : exhsB xs with
    | true => rfl
    | false => rw [landsR_no h] at hs; simp at hs
  refine ⟨hok, ?_⟩
  rw [landsR_yes hok] at hs
  have hne : 0 < (ageL xs).length := by
    rcases Nat.eq_zero_or_pos (ageL xs).length with h0 | h0
    · have : ageL xs = [] := List.length_eq_zero_iff.1 h0
      rw [this] at hs; simp [landF] at hs
    · exact h0
  obtain ⟨s', m, h1, h2, h3, y, hy, hys, hym⟩ := landF_first hne ((ageL xs).length - 1) (by omega)
  rw [show (ageL xs).length - 1 + 1 = (ageL xs).length by omega, List.take_length] at h1 h2
  rw [hs] at h1
  obtain rfl := Option.some.inj h1
  have hso := ageS_ord xs
  obtain ⟨jy, hjy⟩ := List.mem_iff_getElem?.1 hy
  have hpy : byLand s y = true := by unfold byLand; rw [hys]; simp
  have hf : 0 ≤ findP (byLand s) (ageL xs) := by
    cases hd : decide (0 ≤ findP (byLand s) (ageL xs)) with
    | true => exact of_decide_eq_true hd
    | false =>
      exfalso
      have hn : ∀ j, j < (ageL xs).length → ∀ z, (ageL xs)[j]? = some z → byLand s z = false := by
        intro j hj z hz
        cases hb : byLand s z with
        | false => rfl
        | true =>
          exfalso
          have hlt := of_decide_eq_false hd
          unfold findP at hlt
          cases hi : (ageL xs).findIdx? (byLand s) with
          | some i => rw [hi] at hlt; simp at hlt
          | none =>
            rw [List.findIdx?_eq_none_iff] at hi
            have := hi z (List.mem_of_getElem? hz)
            rw [this] at hb; cases hb
      have := hn jy (List.getElem?_eq_some_iff.1 hjy).1 y hjy
      rw [this] at hpy; cases hpy
  obtain ⟨hlt, z, hz, hpz⟩ := findP_ge hf
  refine ⟨⟨y, ordG_mem.1 hy, hys⟩, z, ordG_mem.1 (List.mem_of_getElem? hz), resAt_yes hok (by omega) hz, fun t ht => ?_⟩
  have hle : (findP (byLand s) (ageL xs)).toNat ≤ jy := by
    unfold findP
    cases hi : (ageL xs).findIdx? (byLand s) with
    | none => simp
    | some i =>
      rw [List.findIdx?_eq_some_iff_getElem] at hi
      obtain ⟨hil, _, hall⟩ := hi
      simp only [Int.toNat_natCast]
      rcases Nat.lt_or_ge jy i with hc | hc
      · exfalso
        have h9 := hall jy hc
        have h8 := (List.getElem?_eq_some_iff.1 hjy).2
        rw [h8] at h9
        exact h9 hpy
      · exact hc
  have e1 := ageS_at hso hle hz hjy
  obtain ⟨jt, hjt⟩ := List.mem_iff_getElem?.1 ((ordG_mem (gt := ageG)).2 ht)
  have h0 := getLt hne
  have e2 := ageS_at hso (Nat.zero_le jt) h0 hjt
  rw [h0] at h3
  have e3 : (ageL xs)[0].made = m := Option.some.inj h3
  omega
/-- The year of the exhibit with this number, the last one that has it. -/
def madeT (xs : List Exhibit) (i : Int) : Int := xs.foldl (fun a x => if x.id = i then x.made else a) 0
theorem madeT_snoc {xs : List Exhibit} {k : Nat} {x : Exhibit} {i : Int} (h : xs[k]? = some x) : madeT (xs.take (k + 1)) i = if x.id = i then x.made else madeT (xs.take k) i := by
  unfold madeT; rw [take_snoc h, List.foldl_append]; rfl
theorem madeT_eq {xs : List Exhibit} (h : exhsB xs = true) {y : Exhibit} (hy : y ∈ xs) : madeT xs y.id = y.made := by
  obtain ⟨j, hj⟩ := List.mem_iff_getElem?.1 hy
  have key : ∀ k, k ≤ xs.length → j < k → madeT (xs.take k) y.id = y.made := by
    intro k
    induction k with
    | zero => intro _ h; exact absurd h (Nat.not_lt_zero j)
    | succ k ih =>
      intro hk hjk
      have hx := getLt (show k < xs.length by omega)
      rw [madeT_snoc hx]
      by_cases he : xs[k].id = y.id
      · rw [if_pos he]
        have := id_at h hx hj he
        subst this
        rw [hx] at hj; rw [Option.some.inj hj]
      · rw [if_neg he]
        refine ih (by omega) ?_
        rcases Nat.lt_or_ge j k with h1 | h1
        · exact h1
        · exfalso
          obtain rfl : j = k := by omega
          rw [hx] at hj; rw [Option.some.inj hj] at he; exact he rfl
  have := key xs.length (Nat.le_refl _) (List.getElem?_eq_some_iff.1 hj).1
  rwa [List.take_length] at this

/-! ### The text of an exhibit -/
def extL (x : Exhibit) : List UInt8 := x.land.data.toList ++ [32] ++ numL x.made.toNat ++ [58, 32] ++ numL x.upper.toNat ++ [43] ++ numL x.lower.toNat ++ [32, 120, 32] ++ numL x.rods.toNat
def extR (x : Exhibit) : List UInt8 := if exhB x = true then (if x.cs = 0 then extL x ++ [32, 40, 115, 116, 111, 114, 101, 41] else extL x) else []
theorem extR_no {x : Exhibit} (h : exhB x = false) : extR x = [] := by rw [extR, if_neg (by rw [h]; simp)]
theorem extR_st {x : Exhibit} (h : exhB x = true) (h0 : x.cs = 0) : extR x = extL x ++ [32, 40, 115, 116, 111, 114, 101, 41] := by rw [extR, if_pos h, if_pos h0]
theorem extR_sh {x : Exhibit} (h : exhB x = true) (h0 : x.cs ≠ 0) : extR x = extL x := by rw [extR, if_pos h, if_neg h0]
theorem word_len {l : List UInt8} (h : wordB (bs l) = true) : l.length ≤ 10 := by
  unfold wordB inB at h
  simp only [Bool.and_eq_true, decide_eq_true_eq, bs_size] at h
  omega
theorem bs_data (l : List UInt8) : (bs l).data.toList = l := by simp [bs]
end Go.Proofs.Ytfelindekikaeaa
