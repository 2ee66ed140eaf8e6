/- What is reached: the program's loop step by step (plain). By an AI agent. -/
import Derived.Test.YtjhlhkglpecdbaaHb
import Derived.Test.YtjhlhkglpecdbaaKo
set_option linter.unusedVariables false
set_option linter.unusedSimpArgs false
namespace Go.Proofs.Ytjhlhkglpecdbaa
open Go Go.RowKit K

def stepI (u l : Int) (d : Nat) (xs : List IntA2) (at_ : Nat) (m : Int) (acc : List Int) (n : Nat) : List Int := if lftP xs at_ n m < 0 then acc else reachI u l d (setP xs at_ n) (at_ + 1) (lftP xs at_ n m) acc
def stI (u l : Int) (d : Nat) (xs : List IntA2) (at_ : Nat) (m : Int) (acc : List Int) (n : Nat) : List Int := (List.range n).foldl (stepI u l d xs at_ m) acc
section
variable {u l : Int} {d : Nat} {xs : List IntA2} {at_ : Nat} {m : Int} {acc : List Int} {n : Nat}
theorem stI_zero : stI u l d xs at_ m acc 0 = acc := rfl
theorem stI_end : stI u l d xs at_ m acc (mostP u l at_ + 1).toNat = reachI u l (d + 1) xs at_ m acc := by rw [reachI]; rfl
theorem stI_skip (h : lftP xs at_ n m < 0) : stI u l d xs at_ m acc (n + 1) = stI u l d xs at_ m acc n := by
  rw [stI, List.range_succ, List.foldl_append, List.foldl_cons, List.foldl_nil, stepI, if_pos h]; rfl
theorem stI_go (h : ¬ lftP xs at_ n m < 0) : stI u l d xs at_ m acc (n + 1) = reachI u l d (setP xs at_ n) (at_ + 1) (lftP xs at_ n m) (stI u l d xs at_ m acc n) := by
  rw [stI, List.range_succ, List.foldl_append, List.foldl_cons, List.foldl_nil, stepI, if_neg h]; rfl
theorem setP_len : (setP xs at_ n).length = xs.length := by unfold setP; rw [List.length_set]
theorem ptA_bd (h : frameB u l xs = true) : (0 ≤ ptA (rodAt xs (at_ / 2)) (at_ % 2) ∧ ptA (rodAt xs (at_ / 2)) (at_ % 2) ≤ 5) := by
  unfold ptA rodAt
  cases hx : xs[at_ / 2]? with
  | none => simp
  | some r => have := frameB_at h hx; simp; split <;> omega
theorem setP_frame (h : frameB u l xs = true) (hn : (n : Int) ≤ mostP u l at_) : frameB u l (setP xs at_ n) = true := by
  have hul := frameB_ul h
  rw [frameB_end]
  · simp only [inB, setP_len, Bool.and_eq_true, decide_eq_true_eq]; omega
  · intro k r hk hr
    unfold setP at hr
    rw [List.getElem?_set] at hr
    have hall := h
    unfold frameB at hall
    simp only [Bool.and_eq_true] at hall
    have hrod : ∀ j s, xs[j]? = some s → rodB u l s = true := fun j s hs => List.all_eq_true.1 hall.2 s (List.mem_of_getElem? hs)
    split at hr
    · split at hr
      · rename_i h1 h2
        obtain rfl := Option.some.inj hr
        have hs := hrod _ _ (getLt h2)
        have hro : rodAt xs (at_ / 2) = xs[at_ / 2] := rodAt_eq (getLt h2)
        rw [hro]
        unfold rodB inB at hs ⊢
        simp only [Bool.and_eq_true, decide_eq_true_eq] at hs
        unfold mostP at hn
        unfold ptS
        by_cases hp : at_ % 2 = 1
        · rw [if_pos hp] at hn ⊢; simp only [Bool.and_eq_true, decide_eq_true_eq]; omega
        · rw [if_neg hp] at hn ⊢; simp only [Bool.and_eq_true, decide_eq_true_eq]; omega
      · cases hr
    · exact hrod _ _ hr
theorem numF_two (h : frameB u l xs = true) (h2 : xs.length ≤ 2) : 0 ≤ numF xs ∧ numF xs ≤ 165 := by
  have h1 := numF_bd h xs.length (Nat.le_refl _)
  rw [List.take_length] at h1
  have : xs.length = 0 ∨ xs.length = 1 ∨ xs.length = 2 := by omega
  rcases this with e | e | e <;> rw [e] at h1
  · rw [show p10 0 = 1 from rfl] at h1; omega
  · rw [show p10 1 = 10 from rfl] at h1; omega
  · rw [show p10 2 = 100 from rfl] at h1; omega
theorem putPt {r : IntA2} (hx : xs[at_ / 2]? = some r) (pad : List Value) :
    (flat encIntA2 xs ++ pad).take (0 + at_ / 2 * 2 + at_ % 2 * 1) ++ [Value.int .i64 (n : Int)] ++ (flat encIntA2 xs ++ pad).drop (0 + at_ / 2 * 2 + at_ % 2 * 1 + 1) = flat encIntA2 (setP xs at_ n) ++ pad := by
  rw [Nat.mul_one]
  unfold setP
  rw [rodAt_eq hx]
  refine flatPutF encIntA2_len pad hx (Nat.mod_lt _ (by omega)) ?_
  unfold ptS
  rcases Nat.mod_two_eq_zero_or_one at_ with e | e <;> rw [e] <;> rfl
theorem cellPt {w : World} {b o : Nat} {r : IntA2} (hc : Cells w b (o + at_ / 2 * 2) (encIntA2 r)) : w.cell? ⟨b, o + at_ / 2 * 2 + at_ % 2 * 1, none⟩ = some (.int .i64 (ptA r (at_ % 2))) := by
  obtain ⟨c0, c1, _⟩ := hc
  unfold ptA
  rcases Nat.mod_two_eq_zero_or_one at_ with e | e <;> rw [e]
  · exact c0
  · exact c1
end
theorem reachI_outB {u l : Int} : ∀ (d : Nat) (xs : List IntA2) (at_ : Nat) (m : Int) (acc : List Int), frameB u l xs = true → xs.length ≤ 2 → outB acc → outB (reachI u l d xs at_ m acc)
  | 0, xs, at_, m, acc, hf, h2, h => by rw [reachI]; exact h.put (numF_two hf h2)
  | d + 1, xs, at_, m, acc, hf, h2, h => by
    rw [reachI]
    have key : ∀ (L : List Nat) (acc : List Int), (∀ n ∈ L, (n : Int) ≤ mostP u l at_) → outB acc → outB (L.foldl (fun acc n => if lftP xs at_ n m < 0 then acc else reachI u l d (setP xs at_ n) (at_ + 1) (lftP xs at_ n m) acc) acc) := by
      intro L
      induction L with
      | nil => intro acc _ h; exact h
      | cons n L ih =>
        intro acc hL h
        rw [List.foldl_cons]
        refine ih _ (fun k hk => hL k (by simp [hk])) ?_
        split
        · exact h
        · exact reachI_outB d _ _ _ _ (setP_frame hf (hL n (by simp))) (by rw [setP_len]; exact h2) h
    refine key _ _ (fun n hn => ?_) h
    rw [List.mem_range] at hn
    omega
theorem stI_outB {u l : Int} {d : Nat} {xs : List IntA2} {at_ : Nat} {m : Int} {acc : List Int} (hf : frameB u l xs = true) (h2 : xs.length ≤ 2) (h : outB acc) : ∀ n : Nat, (n : Int) ≤ mostP u l at_ + 1 → outB (stI u l d xs at_ m acc n)
  | 0, _ => h
  | n + 1, hn => by
    have ih := stI_outB (d := d) (m := m) (at_ := at_) hf h2 h n (by omega)
    by_cases hl : lftP xs at_ n m < 0
    · rw [stI_skip hl]; exact ih
    · rw [stI_go hl]; exact reachI_outB d _ _ _ _ (setP_frame hf (by omega)) (by rw [setP_len]; exact h2) ih
end Go.Proofs.Ytjhlhkglpecdbaa
