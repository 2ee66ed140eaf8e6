/- Journeys: the shortest ways of the program and of the reference are the same. By an AI agent. -/
import Derived.Test.YtgnnlgmeagipjaaJa
set_option linter.unusedVariables false
set_option linter.unusedSimpArgs false
namespace Go.Proofs.Ytgnnlgmeagipjaa
open Go Go.RowKit K

def allow (wo : Int) (r : Road) : Bool := r.a != wo && r.b != wo
def imin (x y : Int) : Int := if y < x then y else x
theorem imin_le1 (x y : Int) : imin x y ≤ x := by unfold imin; split <;> omega
theorem imin_le2 (x y : Int) : imin x y ≤ y := by unfold imin; split <;> omega
theorem imin_cases (x y : Int) : imin x y = x ∨ imin x y = y := by unfold imin; split <;> simp

/-- The entry of a row of eight rows. -/
def g8 (m : List Int) (a b : Nat) : Int := m.getD (8 * a + b) 0
def m0 : List Int := (List.range 64).map fun t => if t / 8 = t % 8 then 0 else 1000000
def setRoad (wo : Int) (m : List Int) (r : Road) : List Int := if allow wo r then (m.set (8 * r.a.toNat + r.b.toNat) r.days).set (8 * r.b.toNat + r.a.toNat) r.days else m
def roadsM (wo : Int) (rs : List Road) : List Int := rs.foldl (setRoad wo) m0
def relax (m : List Int) (k a b : Nat) : List Int := m.set (8 * a + b) (imin (g8 m a b) (g8 m a k + g8 m k b))
def fwT (m : List Int) : Nat → List Int
  | 0 => m
  | t + 1 => relax (fwT m t) (t / 64) (t / 8 % 8) (t % 8)
def ways (wo : Int) (rs : List Road) : List Int := fwT (roadsM wo rs) 512

theorem g8_set {m : List Int} {a b c d : Nat} {v : Int} (hl : m.length = 64) (ha : a < 8) (hb : b < 8) (hc : c < 8) (hd : d < 8) : g8 (m.set (8 * c + d) v) a b = if a = c ∧ b = d then v else g8 m a b := by
  unfold g8
  simp only [List.getD_eq_getElem?_getD, List.getElem?_set]
  by_cases h : a = c ∧ b = d
  · obtain ⟨rfl, rfl⟩ := h
    simp [hl, show 8 * a + b < 64 from by omega]
  · rw [if_neg (by omega), if_neg h]
theorem fwT_succ (m : List Int) (t : Nat) : fwT m (t + 1) = relax (fwT m t) (t / 64) (t / 8 % 8) (t % 8) := rfl
theorem fwT_len {m : List Int} (hl : m.length = 64) : ∀ t, (fwT m t).length = 64
  | 0 => hl
  | t + 1 => by simp [fwT, relax, fwT_len hl t]

theorem phase {m : List Int} (hl : m.length = 64) {k : Nat} (hk : k < 8) (h0 : g8 (fwT m (64 * k)) k k = 0) (hn : ∀ a b, a < 8 → b < 8 → 0 ≤ g8 (fwT m (64 * k)) a b) :
    ∀ p, p ≤ 64 → ∀ a b, a < 8 → b < 8 → g8 (fwT m (64 * k + p)) a b = if 8 * a + b < p then imin (g8 (fwT m (64 * k)) a b) (g8 (fwT m (64 * k)) a k + g8 (fwT m (64 * k)) k b) else g8 (fwT m (64 * k)) a b
  | 0, _, a, b, _, _ => by simp
  | p + 1, hp, a, b, ha, hb => by
    have ih := phase hl hk h0 hn p (by omega)
    have e1 : (64 * k + p) / 64 = k := by omega
    have e2 : (64 * k + p) / 8 % 8 = p / 8 := by omega
    have e3 : (64 * k + p) % 8 = p % 8 := by omega
    have hp8 : p / 8 < 8 := by omega
    have hpm : p % 8 < 8 := by omega
    rw [show 64 * k + (p + 1) = (64 * k + p) + 1 from by omega, fwT_succ]
    unfold relax
    rw [e1, e2, e3, g8_set (fwT_len hl _) ha hb hp8 hpm, ih (p / 8) (p % 8) hp8 hpm, ih (p / 8) k hp8 hk, ih k (p % 8) hk hpm]
    generalize hD : g8 (fwT m (64 * k)) = D at *
    have hcol : (if 8 * (p / 8) + k < p then imin (D (p / 8) k) (D (p / 8) k + D k k) else D (p / 8) k) = D (p / 8) k := by
      split
      · rw [h0]; unfold imin; split <;> omega
      · rfl
    have hrow : (if 8 * k + p % 8 < p then imin (D k (p % 8)) (D k k + D k (p % 8)) else D k (p % 8)) = D k (p % 8) := by
      split
      · rw [h0]; unfold imin; split <;> omega
      · rfl
    rw [hcol, hrow, if_neg (show ¬ 8 * (p / 8) + p % 8 < p by omega)]
    by_cases hab : a = p / 8 ∧ b = p % 8
    · obtain ⟨rfl, rfl⟩ := hab
      rw [if_pos ⟨rfl, rfl⟩, if_pos (by omega)]
    · rw [if_neg hab, ih a b ha hb]
      by_cases h1 : 8 * a + b < p
      · rw [if_pos h1, if_pos (by omega)]
      · rw [if_neg h1, if_neg (by omega)]

/-! ### Walks -/
inductive Walk (E : Nat → Nat → Int → Prop) : Nat → Nat → Int → Prop
  | nil (s : Nat) : Walk E s s 0
  | snoc {s u v : Nat} {n w : Int} : Walk E s u n → E u v w → Walk E s v (n + w)
theorem Walk.append {E : Nat → Nat → Int → Prop} {s u t : Nat} {n k : Int} (h : Walk E s u n) (h2 : Walk E u t k) : Walk E s t (n + k) := by
  induction h2 with
  | nil => rw [Int.add_zero]; exact h
  | snoc _ he ih => rw [← Int.add_assoc]; exact .snoc ih he

def Ed (wo : Int) (rs : List Road) (u v : Nat) (w : Int) : Prop := ∃ r ∈ rs, allow wo r = true ∧ r.days = w ∧ ((r.a.toNat = u ∧ r.b.toNat = v) ∨ (r.a.toNat = v ∧ r.b.toNat = u))
theorem Ed.symm {wo : Int} {rs : List Road} {u v : Nat} {w : Int} (h : Ed wo rs u v w) : Ed wo rs v u w := by
  obtain ⟨r, h1, h2, h3, h4⟩ := h
  exact ⟨r, h1, h2, h3, h4.symm⟩

/-- The roads stand in a strict order. -/
def OkR (rs : List Road) : Prop := (∀ r ∈ rs, roadB r = true) ∧ rs.Pairwise fun x y => ¬ (x.a = y.a ∧ x.b = y.b)
theorem road_lt {r : Road} (h : roadB r = true) : r.a.toNat < 8 ∧ r.b.toNat < 8 ∧ r.a.toNat < r.b.toNat ∧ 1 ≤ r.days ∧ r.days ≤ 30 ∧ 0 ≤ r.a ∧ 0 ≤ r.b := by
  simp only [roadB, inB, Bool.and_eq_true, decide_eq_true_eq] at h
  omega

theorem m0_get {a b : Nat} (ha : a < 8) (hb : b < 8) : g8 m0 a b = if a = b then 0 else 1000000 := by
  unfold g8 m0
  rw [List.getD_eq_getElem?_getD, List.getElem?_map, List.getElem?_range (by omega)]
  simp only [Option.map_some, Option.getD_some]
  rw [show (8 * a + b) / 8 = a from by omega, show (8 * a + b) % 8 = b from by omega]

/-- What the rows hold once some roads are set. -/
structure Set0 (wo : Int) (rs : List Road) (m : List Int) : Prop where
  len : m.length = 64
  diag : ∀ a, a < 8 → g8 m a a = 0
  sound : ∀ a b, a < 8 → b < 8 → a ≠ b → g8 m a b = 1000000 ∨ Ed wo rs a b (g8 m a b)
  edge : ∀ r ∈ rs, allow wo r = true → g8 m r.a.toNat r.b.toNat = r.days ∧ g8 m r.b.toNat r.a.toNat = r.days

theorem set0_snoc {wo : Int} {rs : List Road} {m : List Int} {r : Road} (h : Set0 wo rs m) (hr : roadB r = true) (hall : ∀ x ∈ rs, roadB x = true) (hd : ∀ x ∈ rs, ¬ (x.a = r.a ∧ x.b = r.b)) : Set0 wo (rs ++ [r]) (setRoad wo m r) := by
  obtain ⟨h1, h2, h3, h4, h5, h6, h7⟩ := road_lt hr
  by_cases ha : allow wo r = true
  · have hm : setRoad wo m r = (m.set (8 * r.a.toNat + r.b.toNat) r.days).set (8 * r.b.toNat + r.a.toNat) r.days := by unfold setRoad; rw [if_pos ha]
    have hl : (m.set (8 * r.a.toNat + r.b.toNat) r.days).length = 64 := by simp [h.len]
    have hg : ∀ a b, a < 8 → b < 8 → g8 (setRoad wo m r) a b = if a = r.b.toNat ∧ b = r.a.toNat then r.days else if a = r.a.toNat ∧ b = r.b.toNat then r.days else g8 m a b := fun a b ha' hb' => by
      rw [hm, g8_set hl ha' hb' h2 h1, g8_set h.len ha' hb' h1 h2]
    refine ⟨by rw [hm]; simp [h.len], fun a ha' => ?_, fun a b ha' hb' hne => ?_, fun x hx hax => ?_⟩
    · rw [hg a a ha' ha', if_neg (by omega), if_neg (by omega)]; exact h.diag a ha'
    · rw [hg a b ha' hb']
      split
      · rename_i e; exact .inr ⟨r, by simp, ha, rfl, .inr ⟨e.2.symm, e.1.symm⟩⟩
      · split
        · rename_i e; exact .inr ⟨r, by simp, ha, rfl, .inl ⟨e.1.symm, e.2.symm⟩⟩
        · rcases h.sound a b ha' hb' hne with e | ⟨x, hx, hh⟩
          · exact .inl e
          · exact .inr ⟨x, by simp [hx], hh⟩
    · rcases List.mem_append.1 hx with hx | hx
      · obtain ⟨k1, k2, k3, k4, k5, k6, k7⟩ := road_lt (hall x hx)
        obtain ⟨e1, e2⟩ := h.edge x hx hax
        have hne := hd x hx
        rw [hg _ _ k1 k2, hg _ _ k2 k1, if_neg (by omega), if_neg (by omega), if_neg (by omega), if_neg (by omega)]
        exact ⟨e1, e2⟩
      · obtain rfl : x = r := by simpa using hx
        rw [hg _ _ h1 h2, hg _ _ h2 h1, if_neg (by omega), if_pos ⟨rfl, rfl⟩, if_pos ⟨rfl, rfl⟩]
        exact ⟨rfl, rfl⟩
  · have hm : setRoad wo m r = m := by unfold setRoad; rw [if_neg ha]
    rw [hm]
    refine ⟨h.len, h.diag, fun a b ha' hb' hne => ?_, fun x hx hax => ?_⟩
    · rcases h.sound a b ha' hb' hne with e | ⟨x, hx, hh⟩
      · exact .inl e
      · exact .inr ⟨x, by simp [hx], hh⟩
    · rcases List.mem_append.1 hx with hx | hx
      · exact h.edge x hx hax
      · obtain rfl : x = r := by simpa using hx
        exact absurd hax ha
theorem set0_all {wo : Int} {rs : List Road} (h : OkR rs) : Set0 wo rs (roadsM wo rs) := by
  have key : ∀ (ys xs : List Road) (m : List Int), Set0 wo xs m → OkR (xs ++ ys) → Set0 wo (xs ++ ys) (ys.foldl (setRoad wo) m) := by
    intro ys
    induction ys with
    | nil => intro xs m h1 _; simpa using h1
    | cons y ys ih =>
      intro xs m h1 h2
      rw [List.foldl_cons]
      have := ih (xs ++ [y]) (setRoad wo m y) (set0_snoc h1 (h2.1 y (by simp)) (fun x hx => h2.1 x (by simp [hx])) (fun x hx => by
        have := (List.pairwise_append.1 h2.2).2.2 x hx y (by simp)
        exact this)) (by simpa using h2)
      simpa using this
  have h0 : Set0 wo [] m0 := ⟨by simp [m0], fun a ha => by rw [m0_get ha ha, if_pos rfl], fun a b ha hb hne => .inl (by rw [m0_get ha hb, if_neg hne]), fun r hr => by cases hr⟩
  exact key rs [] m0 h0 h

/-- What the rows hold once the first k towns have been gone over. -/
structure Inv (wo : Int) (rs : List Road) (k : Nat) (D : Nat → Nat → Int) : Prop where
  nn : ∀ a b, a < 8 → b < 8 → 0 ≤ D a b
  diag : ∀ a, a < 8 → D a a = 0
  cap : ∀ a b, a < 8 → b < 8 → D a b ≤ 1000000
  sound : ∀ a b, a < 8 → b < 8 → D a b = 1000000 ∨ Walk (Ed wo rs) a b (D a b)
  edge : ∀ u v w, u < 8 → v < 8 → Ed wo rs u v w → D u v ≤ w
  tri : ∀ i j q, i < 8 → j < 8 → q < k → D i j ≤ D i q + D q j

theorem Inv.next {wo : Int} {rs : List Road} {k : Nat} {D D' : Nat → Nat → Int} (h : Inv wo rs k D) (hk : k < 8) (hD : ∀ a b, a < 8 → b < 8 → D' a b = imin (D a b) (D a k + D k b)) : Inv wo rs (k + 1) D' := by
  refine ⟨fun a b ha hb => ?_, fun a ha => ?_, fun a b ha hb => ?_, fun a b ha hb => ?_, fun u v w hu hv he => ?_, fun i j q hi hj hq => ?_⟩
  · have h1 := h.nn a b ha hb; have h2 := h.nn a k ha hk; have h3 := h.nn k b hk hb
    rw [hD a b ha hb]; unfold imin; split <;> omega
  · have h2 := h.nn a k ha hk; have h3 := h.nn k a hk ha
    rw [hD a a ha ha, h.diag a ha]; unfold imin; split <;> omega
  · rw [hD a b ha hb]; have := imin_le1 (D a b) (D a k + D k b); have := h.cap a b ha hb; omega
  · have h0 := h.cap a b ha hb
    have n1 := h.nn a k ha hk; have n2 := h.nn k b hk hb
    rw [hD a b ha hb]
    rcases h.sound a b ha hb with e | e
    · by_cases hlt : D a k + D k b < D a b
      · rw [show imin (D a b) (D a k + D k b) = D a k + D k b from by unfold imin; rw [if_pos hlt]]
        rcases h.sound a k ha hk with e1 | e1
        · omega
        rcases h.sound k b hk hb with e2 | e2
        · omega
        exact .inr (e1.append e2)
      · rw [show imin (D a b) (D a k + D k b) = D a b from by unfold imin; rw [if_neg hlt]]; exact .inl e
    · by_cases hlt : D a k + D k b < D a b
      · rw [show imin (D a b) (D a k + D k b) = D a k + D k b from by unfold imin; rw [if_pos hlt]]
        rcases h.sound a k ha hk with e1 | e1
        · omega
        rcases h.sound k b hk hb with e2 | e2
        · omega
        exact .inr (e1.append e2)
      · rw [show imin (D a b) (D a k + D k b) = D a b from by unfold imin; rw [if_neg hlt]]; exact .inr e
  · rw [hD u v hu hv]; have := imin_le1 (D u v) (D u k + D k v); have := h.edge u v w hu hv he; omega
  · by_cases hqk : q = k
    · subst hqk
      have h1 := hD i q hi hk; have h2 := hD q j hk hj
      have d := h.diag q hk
      rw [d] at h1 h2
      have e1 : D' i q = D i q := by rw [h1]; unfold imin; split <;> omega
      have e2 : D' q j = D q j := by rw [h2]; unfold imin; split <;> omega
      rw [e1, e2, hD i j hi hj]; exact imin_le2 _ _
    · have hq' : q < k := by omega
      have hq8 : q < 8 := by omega
      rw [hD i j hi hj, hD i q hi hq8, hD q j hq8 hj]
      have t1 := h.tri i j q hi hj hq'
      have t2 := h.tri k j q hk hj hq'
      have t3 := h.tri i k q hi hk hq'
      have n1 := h.nn k q hk hq8; have n2 := h.nn q k hq8 hk
      unfold imin
      split <;> split <;> split <;> omega

theorem inv_all {wo : Int} {rs : List Road} (h : OkR rs) : ∀ k, k ≤ 8 → Inv wo rs k (g8 (fwT (roadsM wo rs) (64 * k)))
  | 0, _ => by
    have s := set0_all (wo := wo) h
    have hE : ∀ u v w, u < 8 → v < 8 → Ed wo rs u v w → g8 (roadsM wo rs) u v = w := fun u v w _ _ ⟨r, hr, ha, hw, huv⟩ => by
      obtain ⟨e1, e2⟩ := s.edge r hr ha
      rcases huv with ⟨rfl, rfl⟩ | ⟨rfl, rfl⟩
      · rw [e1, hw]
      · rw [e2, hw]
    have hpos : ∀ u v w, Ed wo rs u v w → 1 ≤ w ∧ w ≤ 30 := fun u v w ⟨r, hr, _, hw, _⟩ => by have := road_lt (h.1 r hr); omega
    refine ⟨fun a b ha hb => ?_, s.diag, fun a b ha hb => ?_, fun a b ha hb => ?_, fun u v w hu hv he => by rw [Nat.mul_zero, fwT, hE u v w hu hv he]; exact Int.le_refl _, fun i j q _ _ hq => absurd hq (Nat.not_lt_zero q)⟩ <;> rw [Nat.mul_zero, fwT]
    · by_cases hab : a = b
      · subst hab; rw [s.diag a ha]; exact Int.le_refl _
      · rcases s.sound a b ha hb hab with e | e
        · rw [e]; omega
        · have := hpos _ _ _ e; omega
    · by_cases hab : a = b
      · subst hab; rw [s.diag a ha]; omega
      · rcases s.sound a b ha hb hab with e | e
        · rw [e]; omega
        · have := hpos _ _ _ e; omega
    · by_cases hab : a = b
      · subst hab; rw [s.diag a ha]; exact .inr (.nil a)
      · rcases s.sound a b ha hb hab with e | e
        · exact .inl e
        · refine .inr ?_
          have := Walk.snoc (Walk.nil a) e
          rwa [Int.zero_add] at this
  | k + 1, hk => by
    have ih := inv_all (wo := wo) h k (by omega)
    have hl := (set0_all (wo := wo) h).len
    have hp := phase hl (show k < 8 by omega) (ih.diag k (by omega)) ih.nn 64 (Nat.le_refl _)
    refine ih.next (by omega) (fun a b ha hb => ?_)
    rw [show 64 * (k + 1) = 64 * k + 64 from by omega, hp a b ha hb, if_pos (by omega)]

theorem ways_inv {wo : Int} {rs : List Road} (h : OkR rs) : Inv wo rs 8 (g8 (ways wo rs)) := inv_all h 8 (Nat.le_refl _)
/-- No walk is shorter. -/
theorem ways_le {wo : Int} {rs : List Road} (h : OkR rs) {s t : Nat} {n : Int} (hw : Walk (Ed wo rs) s t n) (hs : s < 8) : t < 8 ∧ g8 (ways wo rs) s t ≤ n := by
  have iv := ways_inv (wo := wo) h
  induction hw with
  | nil => exact ⟨hs, by rw [iv.diag _ hs]; exact Int.le_refl _⟩
  | snoc _ he ih =>
    obtain ⟨hu, hle⟩ := ih
    rename_i u v n w _
    have hv : v < 8 := by
      obtain ⟨r, hr, _, _, huv⟩ := he
      have := road_lt (h.1 r hr)
      omega
    have h1 := iv.edge u v w hu hv he
    have h2 := iv.tri s v u hs hv hu
    exact ⟨hv, by omega⟩

/-! ### The reference's way -/
def b0 (s : Nat) : List Int := (List.replicate 8 (1000000 : Int)).set s 0
def relaxB (wo : Int) (d : List Int) (r : Road) : List Int :=
  if allow wo r then
    let d1 := d.set r.b.toNat (imin (d.getD r.b.toNat 0) (d.getD r.a.toNat 0 + r.days))
    d1.set r.a.toNat (imin (d1.getD r.a.toNat 0) (d1.getD r.b.toNat 0 + r.days))
  else d
def bfN (wo : Int) (rs : List Road) (s : Nat) : Nat → List Int
  | 0 => b0 s
  | n + 1 => rs.foldl (relaxB wo) (bfN wo rs s n)

theorem relaxB_len (wo : Int) (d : List Int) (r : Road) : (relaxB wo d r).length = d.length := by
  unfold relaxB; split <;> simp
theorem fold_len (wo : Int) : ∀ (rs : List Road) (d : List Int), (rs.foldl (relaxB wo) d).length = d.length
  | [], d => rfl
  | r :: rs, d => by rw [List.foldl_cons, fold_len, relaxB_len]
theorem getD_set {d : List Int} {i j : Nat} {v : Int} (hi : i < d.length) : (d.set i v).getD j 0 = if j = i then v else d.getD j 0 := by
  simp only [List.getD_eq_getElem?_getD, List.getElem?_set]
  by_cases h : i = j
  · subst h; simp [hi]
  · rw [if_neg h, if_neg (Ne.symm h)]

structure BI (wo : Int) (rs : List Road) (s : Nat) (d : List Int) : Prop where
  len : d.length = 8
  nn : ∀ t, t < 8 → 0 ≤ d.getD t 0
  cap : ∀ t, t < 8 → d.getD t 0 ≤ 1000000
  src : d.getD s 0 = 0
  sound : ∀ t, t < 8 → d.getD t 0 = 1000000 ∨ Walk (Ed wo rs) s t (d.getD t 0)

theorem relaxB_spec {wo : Int} {rs : List Road} {s : Nat} {d : List Int} {r : Road} (h : BI wo rs s d) (hs : s < 8) (hr : r ∈ rs) (hok : roadB r = true) :
    BI wo rs s (relaxB wo d r) ∧ (∀ t, t < 8 → (relaxB wo d r).getD t 0 ≤ d.getD t 0) ∧ (allow wo r = true → (relaxB wo d r).getD r.b.toNat 0 ≤ d.getD r.a.toNat 0 + r.days ∧ (relaxB wo d r).getD r.a.toNat 0 ≤ d.getD r.b.toNat 0 + r.days) := by
  obtain ⟨h1, h2, h3, h4, h5, h6, h7⟩ := road_lt hok
  by_cases ha : allow wo r = true
  · have e1 : Ed wo rs r.a.toNat r.b.toNat r.days := ⟨r, hr, ha, rfl, .inl ⟨rfl, rfl⟩⟩
    have hl := h.len
    -- one of the two stores
    have one : ∀ (d : List Int) (u v : Nat), u < 8 → v < 8 → u ≠ v → Ed wo rs u v r.days → BI wo rs s d → BI wo rs s (d.set v (imin (d.getD v 0) (d.getD u 0 + r.days))) ∧ (∀ t, t < 8 → (d.set v (imin (d.getD v 0) (d.getD u 0 + r.days))).getD t 0 ≤ d.getD t 0) ∧ (d.set v (imin (d.getD v 0) (d.getD u 0 + r.days))).getD v 0 ≤ d.getD u 0 + r.days := by
      intro d u v hu hv hne he hb
      have hg : ∀ t, (d.set v (imin (d.getD v 0) (d.getD u 0 + r.days))).getD t 0 = if t = v then imin (d.getD v 0) (d.getD u 0 + r.days) else d.getD t 0 := fun t => getD_set (by rw [hb.len]; exact hv)
      have n1 := hb.nn u hu; have n2 := hb.nn v hv; have c1 := hb.cap u hu; have c2 := hb.cap v hv
      refine ⟨⟨by simp [hb.len], fun t ht => ?_, fun t ht => ?_, ?_, fun t ht => ?_⟩, fun t ht => ?_, ?_⟩
      · rw [hg t]; split
        · unfold imin; split <;> omega
        · exact hb.nn t ht
      · rw [hg t]; split
        · unfold imin; split <;> omega
        · exact hb.cap t ht
      · rw [hg s]; split
        · rename_i e; subst e; rw [hb.src]; unfold imin; split <;> omega
        · exact hb.src
      · rw [hg t]; split
        · rename_i e; subst e
          rcases imin_cases (d.getD t 0) (d.getD u 0 + r.days) with e | e
          · rw [e]; exact hb.sound t ht
          · by_cases hlt : d.getD u 0 + r.days < d.getD t 0
            · rw [e]
              rcases hb.sound u hu with e2 | e2
              · omega
              · exact .inr (.snoc e2 he)
            · have : imin (d.getD t 0) (d.getD u 0 + r.days) = d.getD t 0 := by unfold imin; rw [if_neg hlt]
              rw [this]; exact hb.sound t ht
        · exact hb.sound t ht
      · rw [hg t]; split
        · rename_i e; subst e; exact imin_le1 _ _
        · exact Int.le_refl _
      · rw [hg v, if_pos rfl]; exact imin_le2 _ _
    obtain ⟨a1, a2, a3⟩ := one d r.a.toNat r.b.toNat h1 h2 (by omega) e1 h
    obtain ⟨b1, b2, b3⟩ := one _ r.b.toNat r.a.toNat h2 h1 (by omega) e1.symm a1
    have hrel : relaxB wo d r = (d.set r.b.toNat (imin (d.getD r.b.toNat 0) (d.getD r.a.toNat 0 + r.days))).set r.a.toNat (imin ((d.set r.b.toNat (imin (d.getD r.b.toNat 0) (d.getD r.a.toNat 0 + r.days))).getD r.a.toNat 0) ((d.set r.b.toNat (imin (d.getD r.b.toNat 0) (d.getD r.a.toNat 0 + r.days))).getD r.b.toNat 0 + r.days)) := by
      unfold relaxB; rw [if_pos ha]
    rw [hrel]
    refine ⟨b1, fun t ht => Int.le_trans (b2 t ht) (a2 t ht), fun _ => ⟨Int.le_trans (b2 _ h2) a3, ?_⟩⟩
    have := a2 r.b.toNat h2
    omega
  · have hrel : relaxB wo d r = d := by unfold relaxB; rw [if_neg ha]
    rw [hrel]
    exact ⟨h, fun t _ => Int.le_refl _, fun h => absurd h ha⟩

theorem fold_spec {wo : Int} {rs : List Road} {s : Nat} (hs : s < 8) (hall : ∀ r ∈ rs, roadB r = true) : ∀ (xs : List Road) (d : List Int), (∀ r ∈ xs, r ∈ rs) → BI wo rs s d →
    BI wo rs s (xs.foldl (relaxB wo) d) ∧ (∀ t, t < 8 → (xs.foldl (relaxB wo) d).getD t 0 ≤ d.getD t 0) ∧ (∀ r ∈ xs, allow wo r = true → (xs.foldl (relaxB wo) d).getD r.b.toNat 0 ≤ d.getD r.a.toNat 0 + r.days ∧ (xs.foldl (relaxB wo) d).getD r.a.toNat 0 ≤ d.getD r.b.toNat 0 + r.days)
  | [], d, _, h => ⟨h, fun t _ => Int.le_refl _, fun r hr => by cases hr⟩
  | x :: xs, d, hsub, h => by
    obtain ⟨a1, a2, a3⟩ := relaxB_spec h hs (hsub x (by simp)) (hall x (hsub x (by simp)))
    obtain ⟨b1, b2, b3⟩ := fold_spec hs hall xs (relaxB wo d x) (fun r hr => hsub r (by simp [hr])) a1
    rw [List.foldl_cons]
    refine ⟨b1, fun t ht => Int.le_trans (b2 t ht) (a2 t ht), fun r hr ha => ?_⟩
    obtain ⟨h1, h2, _⟩ := road_lt (hall r (hsub r hr))
    rcases List.mem_cons.1 hr with rfl | hr
    · obtain ⟨c1, c2⟩ := a3 ha
      exact ⟨Int.le_trans (b2 _ h2) c1, Int.le_trans (b2 _ h1) c2⟩
    · obtain ⟨c1, c2⟩ := b3 r hr ha
      have d1 := a2 _ h1; have d2 := a2 _ h2
      exact ⟨by omega, by omega⟩

theorem bf_bi {wo : Int} {rs : List Road} {s : Nat} (hs : s < 8) (hall : ∀ r ∈ rs, roadB r = true) : ∀ n, BI wo rs s (bfN wo rs s n)
  | 0 => by
    have hg : ∀ t, (b0 s).getD t 0 = if t = s then 0 else (List.replicate 8 (1000000 : Int)).getD t 0 := fun t => getD_set (by simpa using hs)
    have hr : ∀ t, t < 8 → (List.replicate 8 (1000000 : Int)).getD t 0 = 1000000 := fun t ht => by
      rw [List.getD_eq_getElem?_getD, List.getElem?_replicate, if_pos ht]; rfl
    refine ⟨by simp [bfN, b0], fun t ht => ?_, fun t ht => ?_, by rw [bfN, hg, if_pos rfl], fun t ht => ?_⟩ <;> rw [bfN, hg]
    · split
      · omega
      · rw [hr t ht]; omega
    · split
      · omega
      · rw [hr t ht]; omega
    · split
      · rename_i e; subst e; exact .inr (.nil t)
      · exact .inl (hr t ht)
  | n + 1 => (fold_spec hs hall rs _ (fun r hr => hr) (bf_bi hs hall n)).1

/-- How many towns are nearer. -/
def rank (F : Nat → Int) (t : Nat) : Nat := ((List.range 8).filter fun y => decide (F y < F t)).length
theorem rank_lt {F : Nat → Int} {u t : Nat} (hu : u < 8) (h : F u < F t) : rank F u < rank F t := by
  unfold rank
  have key : ∀ l : List Nat, u ∈ l → (l.filter fun y => decide (F y < F u)).length < (l.filter fun y => decide (F y < F t)).length := by
    intro l
    induction l with
    | nil => intro h; cases h
    | cons y l ih =>
      intro hm
      have hle : ∀ l : List Nat, (l.filter fun y => decide (F y < F u)).length ≤ (l.filter fun y => decide (F y < F t)).length := by
        intro l
        induction l with
        | nil => exact Nat.le_refl _
        | cons y l ih =>
          by_cases h1 : F y < F u
          · simp [List.filter_cons, h1, show F y < F t from by omega, ih]
          · by_cases h2 : F y < F t
            · simp [List.filter_cons, h1, h2]; omega
            · simp [List.filter_cons, h1, h2, ih]
      rcases List.mem_cons.1 hm with rfl | hm
      · have := hle l
        simp [List.filter_cons, h]; omega
      · have := ih hm
        by_cases h1 : F y < F u
        · simp [List.filter_cons, h1, show F y < F t from by omega]; exact this
        · by_cases h2 : F y < F t
          · simp [List.filter_cons, h1, h2]; omega
          · simp [List.filter_cons, h1, h2]; exact this
  exact key _ (List.mem_range.2 hu)
theorem rank_le {F : Nat → Int} {t : Nat} (ht : t < 8) : rank F t ≤ 7 := by
  unfold rank
  have h1 : ((List.range 8).filter fun y => decide (F y < F t)).length < (List.range 8).length := by
    refine Nat.lt_of_le_of_ne (List.length_filter_le _ _) (fun h => ?_)
    have := (List.filter_eq_self.1 ((List.filter_sublist).eq_of_length h)) t (List.mem_range.2 ht)
    simp at this
  simpa using Nat.le_of_lt_succ h1

theorem bf_le {wo : Int} {rs : List Road} (h : OkR rs) {s : Nat} (hs : s < 8) : ∀ n t, t < 8 → g8 (ways wo rs) s t < 1000000 → rank (g8 (ways wo rs) s) t ≤ n → (bfN wo rs s n).getD t 0 ≤ g8 (ways wo rs) s t := by
  have iv := ways_inv (wo := wo) h
  intro n
  induction n with
  | zero =>
    intro t ht hlt hr
    have h0 : ¬ g8 (ways wo rs) s s < g8 (ways wo rs) s t := fun hh => by have := rank_lt hs hh; omega
    have hn := iv.nn s t hs ht
    rw [iv.diag s hs] at h0
    rcases iv.sound s t hs ht with e | e
    · omega
    · have hz : g8 (ways wo rs) s t = 0 := by omega
      rw [hz] at e
      have hpos : ∀ u v n, Walk (Ed wo rs) u v n → 0 ≤ n ∧ (n = 0 → u = v) := by
        intro u v n hw
        induction hw with
        | nil => exact ⟨Int.le_refl _, fun _ => rfl⟩
        | snoc _ he ih =>
          obtain ⟨r, hr, _, hw, _⟩ := he
          have := road_lt (h.1 r hr)
          exact ⟨by omega, fun hh => by omega⟩
      have := (hpos _ _ _ e).2 rfl
      subst this
      rw [hz, (bf_bi hs h.1 0).src]; exact Int.le_refl _
  | succ n ih =>
    intro t ht hlt hr
    have hst := fold_spec hs h.1 rs (bfN wo rs s n) (fun r hr => hr) (bf_bi (wo := wo) hs h.1 n)
    rcases iv.sound s t hs ht with e | e
    · omega
    · generalize hF : g8 (ways wo rs) s t = x at e
      cases e with
      | nil => rw [(bf_bi hs h.1 (n + 1)).src]; exact Int.le_refl _
      | snoc hw he =>
        rename_i u m w
        obtain ⟨hu, hle⟩ := ways_le h hw hs
        have hw1 : 1 ≤ w := by
          obtain ⟨r, hr, _, hw', _⟩ := he
          have := road_lt (h.1 r hr)
          omega
        have hlt' : g8 (ways wo rs) s u < g8 (ways wo rs) s t := by omega
        have hrk := rank_lt hu hlt'
        have hd := ih u hu (by omega) (by omega)
        obtain ⟨r, hr, ha, hw', huv⟩ := he
        obtain ⟨c1, c2⟩ := hst.2.2 r hr ha
        show ((rs.foldl (relaxB wo) (bfN wo rs s n)).getD t 0) ≤ m + w
        rcases huv with ⟨rfl, rfl⟩ | ⟨rfl, rfl⟩ <;> omega

theorem bf_eq {wo : Int} {rs : List Road} (h : OkR rs) {s t : Nat} (hs : s < 8) (ht : t < 8) : (bfN wo rs s 8).getD t 0 = g8 (ways wo rs) s t := by
  have iv := ways_inv (wo := wo) h
  have bi := bf_bi (wo := wo) hs h.1 8
  have h1 : g8 (ways wo rs) s t ≤ (bfN wo rs s 8).getD t 0 := by
    rcases bi.sound t ht with e | e
    · rw [e]; exact iv.cap s t hs ht
    · exact (ways_le h e hs).2
  have h2 : (bfN wo rs s 8).getD t 0 ≤ g8 (ways wo rs) s t := by
    rcases Int.lt_or_le (g8 (ways wo rs) s t) 1000000 with hl | hl
    · exact bf_le h hs 8 t ht hl (Nat.le_trans (rank_le ht) (by omega))
    · have := bi.cap t ht; omega
  omega

/-- Ways are as long in both directions. -/
theorem ways_symm {wo : Int} {rs : List Road} (h : OkR rs) {s t : Nat} (hs : s < 8) (ht : t < 8) : g8 (ways wo rs) s t = g8 (ways wo rs) t s := by
  have iv := ways_inv (wo := wo) h
  have rev : ∀ u v n, Walk (Ed wo rs) u v n → Walk (Ed wo rs) v u n := by
    intro u v n hw
    induction hw with
    | nil => exact .nil _
    | snoc _ he ih =>
      have := (Walk.snoc (Walk.nil _) he.symm).append ih
      rw [Int.zero_add] at this
      rwa [Int.add_comm] at this
  have key : ∀ s t, s < 8 → t < 8 → g8 (ways wo rs) s t ≤ g8 (ways wo rs) t s := fun s t hs ht => by
    rcases iv.sound t s ht hs with e | e
    · rw [e]; exact iv.cap s t hs ht
    · exact (ways_le h (rev _ _ _ e) hs).2
  have a := key s t hs ht; have b := key t s ht hs; omega
theorem ways_def (wo : Int) (rs : List Road) : fwT (roadsM wo rs) 512 = ways wo rs := rfl
attribute [irreducible] ways
end Go.Proofs.Ytgnnlgmeagipjaa
