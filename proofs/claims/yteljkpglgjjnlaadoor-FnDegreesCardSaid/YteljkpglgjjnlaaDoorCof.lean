/- Coefficients of sets, pairs at a distance, energies by level: what the loops come to. Conditions: at most five variables. -/
import Derived.Test.YteljkpglgjjnlaaDoorPop
namespace Go.Proofs.YteljkpglgjjnlaaDoorMath
open Go.RowKit Go.Proofs.YteljkpglgjjnlaaDoorW.PrintWords Go.Proofs.YteljkpglgjjnlaaDoorW.PrintLast Go.Proofs.YteljkpglgjjnlaaDoorW.PrintMore
set_option linter.unusedVariables false
set_option linter.unusedSimpArgs false

theorem xor_zero {a b : Nat} (h : a ^^^ b = 0) : a = b := by
  have : (a ^^^ b) ^^^ b = 0 ^^^ b := by rw [h]
  rw [Nat.xor_assoc, Nat.xor_self, Nat.xor_zero, Nat.zero_xor] at this
  exact this
/-- What an input adds to the coefficient of a set. -/
def cofT (w m x : Nat) : Int := if x &&& m = x then (if par (m ^^^ x) = true then -b2i (w.testBit x) else b2i (w.testBit x)) else 0
def cof (n w m : Nat) : Int := sumI (2 ^ n) (cofT w m)
theorem cofT_range (w m x : Nat) : -1 ≤ cofT w m x ∧ cofT w m x ≤ 1 := by
  have := b2i_range (w.testBit x)
  unfold cofT
  split
  · split <;> omega
  · omega
theorem cof_range (n w m : Nat) : -((2 ^ n : Nat) : Int) ≤ cof n w m ∧ cof n w m ≤ ((2 ^ n : Nat) : Int) := sumI_abs fun _ _ => cofT_range _ _ _
theorem sumI_tail {f : Nat → Int} {a : Nat} (d : Nat) (h : ∀ x, a ≤ x → f x = 0) : sumI (a + d) f = sumI a f := by
  induction d with
  | zero => rfl
  | succ d ih =>
    show sumI (a + d) f + f (a + d) = _
    rw [ih, h (a + d) (by omega), Int.add_zero]
theorem cof_short {n w m : Nat} (h : m < 2 ^ n) : sumI (m + 1) (cofT w m) = cof n w m := by
  unfold cof
  rw [show 2 ^ n = (m + 1) + (2 ^ n - (m + 1)) by omega]
  refine (sumI_tail _ fun x hx => ?_).symm
  unfold cofT
  rw [if_neg]
  intro e
  have : x &&& m ≤ m := Nat.and_le_right
  omega
/-- Are two inputs with different values at a distance? -/
def hit (w x k y : Nat) : Int := if w.testBit x != w.testBit y then (if k = pc (x ^^^ y) then 1 else 0) else 0
theorem hit_range (w x k y : Nat) : 0 ≤ hit w x k y ∧ hit w x k y ≤ 1 := by
  unfold hit
  split
  · split <;> omega
  · omega
/-- The pairs of x inputs, and y of the next one's. -/
def pairs2 (w x y k : Nat) : Int := sumI x (fun x' => sumI x' (hit w x' k)) + sumI y (hit w x k)
def pairsD (n w k : Nat) : Int := sumI (2 ^ n) fun x => sumI x (hit w x k)
theorem pairs2_range {w x y k : Nat} (hx : x ≤ 32) (hy : y ≤ 32) : 0 ≤ pairs2 w x y k ∧ pairs2 w x y k ≤ 2000 := by
  have h1 := sumI_bound (n := x) (f := fun x' => sumI x' (hit w x' k)) (a := 0) (b := 32) fun i hi => by
    have := sumI_range (n := i) (f := hit w i k) fun _ _ => hit_range _ _ _ _
    omega
  have h2 := sumI_range (n := y) (f := hit w x k) fun _ _ => hit_range _ _ _ _
  unfold pairs2
  omega
theorem pairs2_zero (w : Nat) : tab 0 (pairs2 w 0 0) = [] := rfl
theorem tab_zero (N : Nat) : List.replicate N (0 : Int) = tab N fun _ => 0 := by
  apply List.ext_getElem?
  intro i
  unfold tab
  simp [List.getElem?_replicate]
  by_cases h : i < N <;> simp [h]
theorem pairs2_start (N w : Nat) : List.replicate N (0 : Int) = tab N (pairs2 w 0 0) := by
  rw [tab_zero]
  rfl
theorem pairs2_row (w x k : Nat) : pairs2 w x x k = pairs2 w (x + 1) 0 k := by
  unfold pairs2
  simp only [sumI]
  omega
theorem pairs2_same {w x y : Nat} (k : Nat) (h : w.testBit x = w.testBit y) : pairs2 w x (y + 1) k = pairs2 w x y k := by
  unfold pairs2
  simp only [sumI]
  rw [show hit w x k y = 0 by unfold hit; rw [h]; simp]
  omega
theorem pairs2_diff {w x y : Nat} (N : Nat) (h : ¬ w.testBit x = w.testBit y) : (tab N (pairs2 w x y)).set (pc (x ^^^ y)) (pairs2 w x y (pc (x ^^^ y)) + 1) = tab N (pairs2 w x (y + 1)) := by
  rw [tab_set]
  apply tab_congr
  intro k _
  have hd : (w.testBit x != w.testBit y) = true := by rw [bne_iff_ne]; exact h
  by_cases e : k = pc (x ^^^ y)
  · rw [if_pos e, ← e]
    unfold pairs2
    simp only [sumI]
    rw [show hit w x k y = 1 by unfold hit; rw [if_pos hd, if_pos e]]
    omega
  · rw [if_neg e]
    unfold pairs2
    simp only [sumI]
    rw [show hit w x k y = 0 by unfold hit; rw [if_pos hd, if_neg e]]
    omega
theorem pairs2_end (n w k : Nat) : pairs2 w (2 ^ n) 0 k = pairsD n w k := by
  unfold pairs2 pairsD
  simp only [sumI]
  omega
/-- The squares of the first sets of a size. -/
def enr (n w j k : Nat) : Int := sumI j fun u => if k = pc u then spW n w u * spW n w u else 0
def enrD (n w k : Nat) : Int := enr n w (2 ^ n) k
theorem sq_range {x : Int} (h : -32 ≤ x ∧ x ≤ 32) : 0 ≤ x * x ∧ x * x ≤ 1024 := by
  rcases Int.le_total 0 x with h0 | h0
  · exact ⟨Int.mul_nonneg h0 h0, by have := Int.mul_le_mul h.2 h.2 h0 (show (0 : Int) ≤ 32 by omega); omega⟩
  · obtain ⟨y, rfl⟩ : ∃ y, x = -y := ⟨-x, by omega⟩
    rw [Int.neg_mul_neg]
    exact ⟨Int.mul_nonneg (by omega) (by omega), by have := Int.mul_le_mul (show y ≤ 32 by omega) (show y ≤ 32 by omega) (by omega) (show (0 : Int) ≤ 32 by omega); omega⟩
theorem spW32 {n : Nat} (hn : n ≤ 5) (w u : Nat) : -32 ≤ spW n w u ∧ spW n w u ≤ 32 := by
  have := spW_range n w u
  have := pow62 hn
  omega
theorem enr_range {n : Nat} (hn : n ≤ 5) (w : Nat) {j : Nat} (hj : j ≤ 32) (k : Nat) : 0 ≤ enr n w j k ∧ enr n w j k ≤ 32768 := by
  have := sumI_bound (n := j) (f := fun u => if k = pc u then spW n w u * spW n w u else 0) (a := 0) (b := 1024) fun u _ => by
    have := sq_range (spW32 hn w u)
    split <;> omega
  unfold enr
  omega
theorem enr_start (N n w : Nat) : List.replicate N (0 : Int) = tab N (enr n w 0) := by
  rw [tab_zero]
  rfl
theorem enr_step (N n w j : Nat) : (tab N (enr n w j)).set (pc j) (enr n w j (pc j) + spW n w j * spW n w j) = tab N (enr n w (j + 1)) := by
  rw [tab_set]
  apply tab_congr
  intro k _
  by_cases e : k = pc j
  · rw [if_pos e, ← e]
    unfold enr
    simp only [sumI]
    rw [if_pos e]
  · rw [if_neg e]
    unfold enr
    simp only [sumI]
    rw [if_neg e, Int.add_zero]
/-- The greatest absolute value of a spectrum. -/
def pk (n w j : Nat) : Int := maxI j (fun u => mx (spW n w u) (-(spW n w u))) 0
theorem pk_range {n : Nat} (hn : n ≤ 5) (w j : Nat) : 0 ≤ pk n w j ∧ pk n w j ≤ ((2 ^ n : Nat) : Int) :=
  maxI_range ⟨Int.le_refl _, Int.natCast_nonneg _⟩ fun u _ => by
    have := spW_range n w u
    unfold mx
    split <;> omega
end Go.Proofs.YteljkpglgjjnlaaDoorMath
