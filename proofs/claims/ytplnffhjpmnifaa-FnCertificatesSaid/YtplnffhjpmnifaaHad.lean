/- Signs that are orthogonal, and a list told by its sums of signs. Conditions: at most five variables. -/
import Derived.Test.YtplnffhjpmnifaaSum
namespace Go.Proofs.YtplnffhjpmnifaaMath
open Go.RowKit Go.Proofs.YtplnffhjpmnifaaW.PrintWords Go.Proofs.YtplnffhjpmnifaaW.PrintLast Go.Proofs.YtplnffhjpmnifaaW.PrintMore
set_option linter.unusedVariables false
set_option linter.unusedSimpArgs false

theorem sumI_neg_f (n : Nat) (f : Nat → Int) : sumI n (fun i => -f i) = -sumI n f := by
  induction n with
  | zero => rfl
  | succ n ih => simp only [sumI]; omega
theorem sumI_mul_r (n : Nat) (f : Nat → Int) (c : Int) : sumI n (fun i => f i * c) = sumI n f * c := by
  induction n with
  | zero => simp [sumI]
  | succ n ih => simp only [sumI]; rw [ih, Int.add_mul]
theorem sumI_mul_l (n : Nat) (f : Nat → Int) (c : Int) : sumI n (fun i => c * f i) = c * sumI n f := by
  induction n with
  | zero => simp [sumI]
  | succ n ih => simp only [sumI]; rw [ih, Int.mul_add]
theorem sumI_all (n : Nat) (c : Int) : sumI n (fun _ => c) = n * c := by
  induction n with
  | zero => simp [sumI]
  | succ n ih => simp only [sumI]; rw [ih]; push_cast; rw [Int.add_mul]; omega
theorem sumI_one {n u : Nat} (h : u < n) (c : Int) : sumI n (fun i => if i = u then c else 0) = c := by
  induction n with
  | zero => omega
  | succ n ih =>
    simp only [sumI]
    by_cases e : n = u
    · subst e
      rw [if_pos rfl, sumI_congr (g := fun _ => 0) fun i hi => if_neg (by omega), sumI_zero, Int.zero_add]
    · rw [if_neg e, ih (by omega), Int.add_zero]
/-- A sum over all inputs of what a change of one variable turns into its opposite. -/
theorem sumI_anti {n i : Nat} (hi : i < n) (g : Nat → Int) (h : ∀ x, g (x ^^^ 2 ^ i) = -g x) : sumI (2 ^ n) g = 0 := by
  have e : 2 ^ n = 2 ^ (n - i - 1) * (2 ^ i + 2 ^ i) := by
    rw [show 2 ^ i + 2 ^ i = 2 ^ (i + 1) by rw [Nat.pow_succ]; omega, ← Nat.pow_add]
    congr 1
    omega
  rw [e, sumI_mulN]
  have : ∀ q, sumI (2 ^ i + 2 ^ i) (fun r => g (q * (2 ^ i + 2 ^ i) + r)) = 0 := by
    intro q
    rw [sumI_cat, sumI_congr (f := fun r => g (q * (2 ^ i + 2 ^ i) + (2 ^ i + r))) (g := fun l => -g (q * (2 ^ i + 2 ^ i) + l)) fun l hl => by
      have := h (q * (2 ^ i + 2 ^ i) + l)
      rw [xor_pow hl] at this
      exact this, sumI_neg_f]
    omega
  rw [sumI_congr (g := fun _ => 0) fun q _ => this q, sumI_zero]
theorem par_xor (a b : Nat) : par (a ^^^ b) = (par a != par b) := by
  have h : pc (a ^^^ b) % 2 = (pc a + pc b) % 2 := pcf_xor 32 a b
  unfold par
  rw [h]
  rcases Nat.mod_two_eq_zero_or_one (pc a) with e | e <;> rcases Nat.mod_two_eq_zero_or_one (pc b) with f | f <;> rw [Nat.add_mod, e, f] <;> rfl
theorem par_pow0 : ((List.range 32).all fun i => par (2 ^ i)) = true := by decide +kernel
theorem par_pow {i : Nat} (h : i < 32) : par (2 ^ i) = true := List.all_eq_true.mp par_pow0 i (List.mem_range.mpr h)
theorem and_pow {z i : Nat} (h : z.testBit i = true) : z &&& 2 ^ i = 2 ^ i := by
  apply Nat.eq_of_testBit_eq
  intro j
  rw [Nat.testBit_and, Nat.testBit_two_pow]
  by_cases e : i = j
  · subst e; simp [h]
  · simp [e]
def cs (u x : Nat) : Int := chi (par (u &&& x))
theorem cs_range (u x : Nat) : -1 ≤ cs u x ∧ cs u x ≤ 1 := chi_range _
theorem cs_sum {n z : Nat} (hn : n ≤ 32) (hz : z < 2 ^ n) (h : z ≠ 0) : sumI (2 ^ n) (fun x => cs z x) = 0 := by
  obtain ⟨i, hi⟩ := Nat.exists_testBit_of_ne_zero h
  have hin : i < n := by
    apply Nat.lt_of_not_le
    intro hle
    have := Nat.testBit_lt_two_pow (Nat.lt_of_lt_of_le hz (Nat.pow_le_pow_right (by omega) hle))
    rw [this] at hi
    exact absurd hi (by decide)
  refine sumI_anti hin _ fun x => ?_
  unfold cs
  rw [Nat.and_xor_distrib_left, and_pow hi, par_xor, par_pow (by omega)]
  cases par (z &&& x) <;> rfl
theorem cs_mul (u v x : Nat) : cs v x * cs u x = cs (v ^^^ u) x := by
  unfold cs
  rw [chi_mul, Nat.and_xor_distrib_right, par_xor]
theorem cs_orth {n u v : Nat} (hn : n ≤ 32) (hu : u < 2 ^ n) (hv : v < 2 ^ n) : sumI (2 ^ n) (fun x => cs v x * cs u x) = if v = u then ((2 ^ n : Nat) : Int) else 0 := by
  rw [sumI_congr (g := fun x => cs (v ^^^ u) x) fun x _ => cs_mul u v x]
  by_cases e : v = u
  · subst e
    rw [if_pos rfl, Nat.xor_self, sumI_congr (g := fun _ => 1) fun x _ => by unfold cs; rw [Nat.zero_and]; decide, sumI_all, Int.mul_one]
  · rw [if_neg e]
    refine cs_sum hn (Nat.xor_lt_two_pow hv hu) fun h => e ?_
    have : (v ^^^ u) ^^^ u = 0 ^^^ u := by rw [h]
    rw [Nat.xor_assoc, Nat.xor_self, Nat.xor_zero, Nat.zero_xor] at this
    exact this
/-- A sum of signs at an input. -/
def sT (l : List Int) (x v : Nat) : Int := rd l (v : Int) * cs v x
def sV (l : List Int) (x M : Nat) : Int := sumI M (sT l x)
theorem sV_back {n u : Nat} (hn : n ≤ 32) (hu : u < 2 ^ n) (l : List Int) : sumI (2 ^ n) (fun x => sV l x (2 ^ n) * cs u x) = rd l (u : Int) * ((2 ^ n : Nat) : Int) := by
  unfold sV
  rw [sumI_congr (g := fun x => sumI (2 ^ n) fun v => sT l x v * cs u x) fun x _ => (sumI_mul_r _ _ _).symm, sumI_swap]
  rw [sumI_congr (g := fun v => if v = u then rd l (u : Int) * ((2 ^ n : Nat) : Int) else 0) fun v hv => ?_]
  · exact sumI_one hu _
  · unfold sT
    rw [sumI_congr (g := fun x => rd l (v : Int) * (cs v x * cs u x)) fun x _ => Int.mul_assoc _ _ _, sumI_mul_l, cs_orth hn hu hv]
    by_cases e : v = u
    · rw [if_pos e, if_pos e, e]
    · rw [if_neg e, if_neg e, Int.mul_zero]
theorem cs_mul_range {a b : Int} (h : -b ≤ a ∧ a ≤ b) (u x : Nat) : -b ≤ a * cs u x ∧ a * cs u x ≤ b := by
  unfold cs chi
  split
  · rw [Int.mul_neg, Int.mul_one]; omega
  · rw [Int.mul_one]; exact h
theorem sV_small {n : Nat} (hn : n ≤ 5) (l : List Int) (h : ∀ x, x < 2 ^ n → -((2 ^ n : Nat) : Int) ≤ sV l x (2 ^ n) ∧ sV l x (2 ^ n) ≤ ((2 ^ n : Nat) : Int)) {u : Nat} (hu : u < 2 ^ n) :
    -((2 ^ n : Nat) : Int) ≤ rd l (u : Int) ∧ rd l (u : Int) ≤ ((2 ^ n : Nat) : Int) := by
  have hb := sumI_bound (n := 2 ^ n) (f := fun x => sV l x (2 ^ n) * cs u x) fun x hx => cs_mul_range (h x hx) u x
  rw [sV_back (by omega) hu] at hb
  generalize rd l (u : Int) = a at *
  rcases (by omega : n = 0 ∨ n = 1 ∨ n = 2 ∨ n = 3 ∨ n = 4 ∨ n = 5) with rfl | rfl | rfl | rfl | rfl | rfl <;> simp only [Nat.reducePow] at hb ⊢ <;> omega
theorem sV_range {l : List Int} {x M : Nat} (hM : M ≤ 32) (h : ∀ v, v < M → -32 ≤ rd l (v : Int) ∧ rd l (v : Int) ≤ 32) : -1024 ≤ sV l x M ∧ sV l x M ≤ 1024 := by
  have := sumI_bound (n := M) (f := sT l x) (a := -32) (b := 32) fun v hv => cs_mul_range (h v hv) v x
  unfold sV
  omega
def swd (l : List Int) (N : Nat) : Nat → Nat
  | 0 => 0
  | x + 1 => if sV l x N = -(N : Int) then swd l N x ||| 2 ^ x else swd l N x
theorem swd_lt (l : List Int) (N x : Nat) : swd l N x < 2 ^ x := by
  induction x with
  | zero => simp [swd]
  | succ x ih =>
    have e : 2 ^ (x + 1) = 2 ^ x + 2 ^ x := by rw [Nat.pow_succ]; omega
    have := Nat.two_pow_pos x
    simp only [swd]
    split
    · exact Nat.or_lt_two_pow (by omega) (by omega)
    · omega
end Go.Proofs.YtplnffhjpmnifaaMath
