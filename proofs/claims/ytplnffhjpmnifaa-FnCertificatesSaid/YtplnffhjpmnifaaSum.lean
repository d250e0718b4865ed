/- Sums in two orders, edges counted twice, the first greatest influence. Conditions: each lemma names its own. -/
import Derived.Test.YtplnffhjpmnifaaPop
namespace Go.Proofs.YtplnffhjpmnifaaMath
open Go.RowKit Go.Proofs.YtplnffhjpmnifaaW.PrintWords Go.Proofs.YtplnffhjpmnifaaW.PrintLast Go.Proofs.YtplnffhjpmnifaaW.PrintMore
set_option linter.unusedVariables false
set_option linter.unusedSimpArgs false

theorem sumI_add_f (n : Nat) (f g : Nat → Int) : sumI n (fun i => f i + g i) = sumI n f + sumI n g := by
  induction n with
  | zero => rfl
  | succ n ih => simp only [sumI]; omega
theorem sumI_zero (n : Nat) : sumI n (fun _ => 0) = 0 := by
  induction n with
  | zero => rfl
  | succ n ih => simp only [sumI]; omega
theorem sumI_swap (N M : Nat) (f : Nat → Nat → Int) : sumI N (fun x => sumI M fun i => f x i) = sumI M fun i => sumI N fun x => f x i := by
  induction N with
  | zero => exact (sumI_zero M).symm
  | succ N ih =>
    simp only [sumI]
    rw [ih, sumI_add_f]
theorem sumI_cat (a b : Nat) (f : Nat → Int) : sumI (a + b) f = sumI a f + sumI b fun r => f (a + r) := by
  induction b with
  | zero => simp [sumI]
  | succ b ih =>
    show sumI (a + b) f + f (a + b) = _
    rw [ih]
    simp only [sumI]
    omega
theorem sumI_mulN (a b : Nat) (f : Nat → Int) : sumI (a * b) f = sumI a fun q => sumI b fun r => f (q * b + r) := by
  induction a with
  | zero => rw [Nat.zero_mul]; rfl
  | succ a ih =>
    rw [Nat.succ_mul, sumI_cat, ih]
    rfl
theorem xor_pow {i q l : Nat} (hl : l < 2 ^ i) : (q * (2 ^ i + 2 ^ i) + l) ^^^ 2 ^ i = q * (2 ^ i + 2 ^ i) + (2 ^ i + l) := by
  have e : 2 ^ i + 2 ^ i = 2 ^ (i + 1) := by rw [Nat.pow_succ]; omega
  rw [e]
  have hl1 : l < 2 ^ (i + 1) := by rw [← e]; omega
  have hl2 : 2 ^ i + l < 2 ^ (i + 1) := by rw [← e]; omega
  apply Nat.eq_of_testBit_eq
  intro j
  rw [Nat.mul_comm q, Nat.testBit_xor, Nat.testBit_two_pow_mul_add _ hl1, Nat.testBit_two_pow_mul_add _ hl2, Nat.testBit_two_pow]
  by_cases h : j < i + 1
  · rw [if_pos h, if_pos h]
    have := Nat.testBit_two_pow_mul_add 1 hl j
    rw [Nat.mul_one] at this
    rw [this]
    by_cases h2 : j < i
    · rw [if_pos h2]
      simp [show ¬ i = j by omega]
    · have : j = i := by omega
      subst this
      rw [if_neg h2, Nat.sub_self]
      have : l.testBit j = false := Nat.testBit_lt_two_pow hl
      simp [this]
  · rw [if_neg h, if_neg h]
    simp [show ¬ i = j by omega]
/-- A sum over all inputs of what a change of one variable leaves as it is. -/
theorem sumI_pair {n i : Nat} (hi : i < n) (g : Nat → Int) (h : ∀ x, g (x ^^^ 2 ^ i) = g x) : sumI (2 ^ n) g = 2 * sumI (2 ^ (n - i - 1)) fun q => sumI (2 ^ i) fun l => g (q * (2 ^ i + 2 ^ i) + l) := by
  have e : 2 ^ n = 2 ^ (n - i - 1) * (2 ^ i + 2 ^ i) := by
    rw [show 2 ^ i + 2 ^ i = 2 ^ (i + 1) by rw [Nat.pow_succ]; omega, ← Nat.pow_add]
    congr 1
    omega
  rw [e, sumI_mulN]
  have : ∀ q, sumI (2 ^ i + 2 ^ i) (fun r => g (q * (2 ^ i + 2 ^ i) + r)) = 2 * sumI (2 ^ i) fun l => g (q * (2 ^ i + 2 ^ i) + l) := by
    intro q
    rw [sumI_cat, sumI_congr (f := fun r => g (q * (2 ^ i + 2 ^ i) + (2 ^ i + r))) (g := fun l => g (q * (2 ^ i + 2 ^ i) + l)) fun l hl => by
      have := h (q * (2 ^ i + 2 ^ i) + l)
      rw [xor_pow hl] at this
      exact this]
    omega
  rw [sumI_congr (g := fun q => 2 * sumI (2 ^ i) fun l => g (q * (2 ^ i + 2 ^ i) + l)) fun q _ => this q]
  generalize 2 ^ (n - i - 1) = N
  induction N with
  | zero => rfl
  | succ N ih => simp only [sumI]; omega
theorem chg_twice (w x y : Nat) : chg w (x ^^^ y) y = chg w x y := by
  unfold chg
  rw [Nat.xor_assoc, Nat.xor_self, Nat.xor_zero]
  cases w.testBit x <;> cases w.testBit (x ^^^ y) <;> rfl
theorem infl_even {n w i : Nat} (hi : i < n) : infl n w i % 2 = 0 := by
  unfold infl
  rw [sumI_pair hi _ fun x => by rw [chg_twice]]
  omega
theorem sum_even {n : Nat} {f : Nat → Int} (h : ∀ i, i < n → f i % 2 = 0) : sumI n f % 2 = 0 := by
  induction n with
  | zero => rfl
  | succ n ih =>
    have h1 := ih fun i hi => h i (by omega)
    have h2 := h n (by omega)
    simp only [sumI]
    omega
/-- Each edge is counted at both its ends. -/
theorem edges_twice (n w : Nat) : sumI (2 ^ n) (fun x => sens n w x) = sumI n (infl n w) := sumI_swap _ _ _
theorem edges_even (n w : Nat) : sumI (2 ^ n) (fun x => sens n w x) % 2 = 0 := by
  rw [edges_twice]
  exact sum_even fun i hi => infl_even hi
/-- The first variable with the greatest influence. -/
def mi (n w : Nat) : Nat → Int
  | 0 => -1
  | i + 1 => if mi n w i < 0 then (i : Int) else if infl n w i > infl n w (mi n w i).toNat then (i : Int) else mi n w i
theorem mi_range (n w i : Nat) : -1 ≤ mi n w i ∧ mi n w i < i ∧ (0 < i → 0 ≤ mi n w i) := by
  induction i with
  | zero => simp [mi]
  | succ i ih =>
    simp only [mi]
    split
    · omega
    · split <;> omega
/-- The sets up to a size at which the spectrum is 0. -/
def ci (n w : Nat) : Nat → Int
  | 0 => n
  | u + 1 => if u > 0 then (if spW n w u = 0 then ci n w u else mn (ci n w u) ((pc u : Int) - 1)) else ci n w u
theorem ci_range {n : Nat} (hn : n ≤ 32) (w u : Nat) : -1 ≤ ci n w u ∧ ci n w u ≤ 32 := by
  induction u with
  | zero => simp only [ci]; omega
  | succ u ih =>
    have := pc_le u
    simp only [ci, mn]
    split
    · split
      · exact ih
      · split <;> omega
    · exact ih
/-- The shifts by which the value changes everywhere or nowhere. -/
def lst (n w : Nat) : Nat → List Int
  | 0 => []
  | s + 1 => if acor n w s = ((2 ^ n : Nat) : Int) ∨ acor n w s = -((2 ^ n : Nat) : Int) then lst n w s ++ [(s : Int)] else lst n w s
theorem lst_len (n w s : Nat) : (lst n w s).length ≤ s := by
  induction s with
  | zero => exact Nat.le_refl _
  | succ s ih =>
    simp only [lst]
    split
    · rw [List.length_append]; simp; exact ih
    · omega
end Go.Proofs.YtplnffhjpmnifaaMath
