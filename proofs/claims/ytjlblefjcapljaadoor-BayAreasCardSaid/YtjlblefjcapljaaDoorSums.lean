
section
set_option linter.unusedVariables false
set_option linter.unusedSimpArgs false
namespace Go.Proofs
set_option linter.unusedSimpArgs false
set_option linter.unusedVariables false
def sumN : Nat → (Nat → Int) → Int
  | 0, _ => 0
  | n + 1, f => sumN n f + f n
theorem sumN_in (lo sz v : Int) (h0 : 0 ≤ lo) (h1 : 0 ≤ sz) : ∀ n : Nat, sumN n (fun X => if lo ≤ (X : Int) ∧ (X : Int) < lo + sz then v else 0) = (min (lo + sz) n - min lo n) * v
  | 0 => by
    have e : min (lo + sz) ((0 : Nat) : Int) - min lo ((0 : Nat) : Int) = 0 := by omega
    rw [e, Int.zero_mul]; rfl
  | n + 1 => by
    show sumN n _ + _ = _
    rw [sumN_in lo sz v h0 h1 n]
    dsimp only
    split
    · have e : min (lo + sz) ((n + 1 : Nat) : Int) - min lo ((n + 1 : Nat) : Int) = (min (lo + sz) n - min lo n) + 1 := by omega
      rw [e, Int.add_mul, Int.one_mul]
    · have e : min (lo + sz) ((n + 1 : Nat) : Int) - min lo ((n + 1 : Nat) : Int) = (min (lo + sz) n - min lo n) := by omega
      rw [e, Int.add_zero]
theorem sumN_box {lo sz v : Int} {n : Nat} (h0 : 0 ≤ lo) (h1 : 0 ≤ sz) (h2 : lo + sz ≤ n) : sumN n (fun X => if lo ≤ (X : Int) ∧ (X : Int) < lo + sz then v else 0) = sz * v := by
  rw [sumN_in lo sz v h0 h1]
  congr 1
  omega
theorem sumN_congr {f g : Nat → Int} : ∀ n, (∀ i, i < n → f i = g i) → sumN n f = sumN n g
  | 0, _ => rfl
  | n + 1, h => by unfold sumN; rw [sumN_congr n fun i hi => h i (by omega), h n (by omega)]
theorem sumN_le {f g : Nat → Int} : ∀ n, (∀ i, i < n → f i ≤ g i) → sumN n f ≤ sumN n g
  | 0, _ => Int.le_refl _
  | n + 1, h => by
    unfold sumN
    have := sumN_le n fun i hi => h i (Nat.lt_succ_of_lt hi)
    have := h n (Nat.lt_succ_self n)
    omega
theorem sumN_zero : ∀ n, sumN n (fun _ => 0) = 0
  | 0 => rfl
  | n + 1 => by unfold sumN; rw [sumN_zero n]; rfl
theorem sumN_const (c : Int) : ∀ n : Nat, sumN n (fun _ => c) = n * c
  | 0 => by simp [sumN]
  | n + 1 => by unfold sumN; rw [sumN_const c n, Int.natCast_add, Int.add_mul]; simp
theorem sumN_add (f g : Nat → Int) : ∀ n, sumN n (fun i => f i + g i) = sumN n f + sumN n g
  | 0 => rfl
  | n + 1 => by unfold sumN; rw [sumN_add f g n]; dsimp only; omega
theorem sumN_list {α : Type} (n : Nat) (g : Nat → α → Int) : ∀ l : List α, (l.map fun q => sumN n fun X => g X q).sum = sumN n fun X => (l.map (g X)).sum
  | [] => by simp [sumN_zero]
  | a :: l => by
    simp only [List.map_cons, List.sum_cons]
    rw [sumN_list n g l, sumN_add]
theorem sum_filter {α : Type} (p : α → Bool) : ∀ l : List α, (l.map fun q => if p q = true then (1 : Int) else 0).sum = ((l.filter p).length : Int)
  | [] => rfl
  | a :: l => by
    rw [List.map_cons, List.sum_cons, sum_filter p l]
    by_cases h : p a = true
    · rw [if_pos h, List.filter_cons_of_pos h]; simp; omega
    · rw [if_neg h, List.filter_cons_of_neg h]; simp
end Go.Proofs
end
