/- The squares of the spectrum weighed, pairs at a distance, influences: how they belong together. Conditions: at most five variables. -/
import Derived.Test.YtplnffhjpmnifaaHad
import Derived.Test.YtplnffhjpmnifaaCof
namespace Go.Proofs.YtplnffhjpmnifaaMath
open Go.RowKit Go.Proofs.YtplnffhjpmnifaaW.PrintWords Go.Proofs.YtplnffhjpmnifaaW.PrintLast Go.Proofs.YtplnffhjpmnifaaW.PrintMore
set_option linter.unusedVariables false
set_option linter.unusedSimpArgs false

theorem sumI_sub_f (n : Nat) (f g : Nat → Int) : sumI n (fun i => f i - g i) = sumI n f - sumI n g := by
  induction n with
  | zero => rfl
  | succ n ih => simp only [sumI]; omega
theorem sumI_le {n : Nat} {f g : Nat → Int} (h : ∀ i, i < n → f i ≤ g i) : sumI n f ≤ sumI n g := by
  induction n with
  | zero => exact Int.le_refl _
  | succ n ih =>
    have h1 := ih fun i hi => h i (by omega)
    have h2 := h n (by omega)
    simp only [sumI]
    omega
theorem cs_comm (u x : Nat) : cs u x = cs x u := by unfold cs; rw [Nat.and_comm]
theorem cs_orth2 {n u v : Nat} (hn : n ≤ 32) (hu : u < 2 ^ n) (hv : v < 2 ^ n) : sumI (2 ^ n) (fun x => cs x v * cs x u) = if v = u then ((2 ^ n : Nat) : Int) else 0 := by
  rw [sumI_congr (g := fun x => cs v x * cs u x) fun x _ => by rw [cs_comm x v, cs_comm x u]]
  exact cs_orth hn hu hv
/-- The spectrum of a function. -/
def spF (n : Nat) (g : Nat → Int) (u : Nat) : Int := sumI (2 ^ n) fun x => g x * cs u x
theorem spW_spF (n w u : Nat) : spW n w u = spF n (fun x => chi (w.testBit x)) u := sumI_congr fun x _ => (chi_mul _ _).symm
theorem parseval {n : Nat} (hn : n ≤ 32) (g : Nat → Int) : sumI (2 ^ n) (fun u => spF n g u * spF n g u) = ((2 ^ n : Nat) : Int) * sumI (2 ^ n) fun x => g x * g x := by
  have e : ∀ u, u < 2 ^ n → spF n g u * spF n g u = sumI (2 ^ n) fun x => sumI (2 ^ n) fun y => (g x * g y) * (cs u x * cs u y) := by
    intro u _
    conv => lhs; lhs; unfold spF
    rw [← sumI_mul_r]
    refine sumI_congr fun x _ => ?_
    unfold spF
    rw [← sumI_mul_l]
    refine sumI_congr fun y _ => ?_
    rw [Int.mul_assoc, Int.mul_assoc, Int.mul_left_comm (cs u x)]
  rw [sumI_congr e, sumI_swap, ← sumI_mul_l]
  refine sumI_congr fun x hx => ?_
  rw [sumI_swap]
  rw [sumI_congr (g := fun y => if y = x then ((2 ^ n : Nat) : Int) * (g x * g x) else 0) fun y hy => ?_]
  · exact sumI_one hx _
  · rw [sumI_mul_l, cs_orth2 hn hy hx]
    by_cases e : y = x
    · subst e
      rw [if_pos rfl, if_pos rfl, Int.mul_comm]
    · rw [if_neg (fun h => e h.symm), if_neg e, Int.mul_zero]
theorem sumI_xor_pow {n i : Nat} (hi : i < n) (f : Nat → Int) : sumI (2 ^ n) (fun x => f (x ^^^ 2 ^ i)) = sumI (2 ^ n) f := by
  have h := sumI_anti hi (fun x => f x - f (x ^^^ 2 ^ i)) (fun x => by simp only [Nat.xor_assoc, Nat.xor_self, Nat.xor_zero]; omega)
  rw [sumI_sub_f] at h
  omega
theorem par_zero : par 0 = false := by decide +kernel
theorem and_pow0 {z i : Nat} (h : z.testBit i = false) : z &&& 2 ^ i = 0 := by
  apply Nat.eq_of_testBit_eq
  intro j
  rw [Nat.testBit_and, Nat.testBit_two_pow, Nat.zero_testBit]
  by_cases e : i = j
  · subst e; simp [h]
  · simp [e]
theorem cs_flip {i : Nat} (hi : i < 32) (u x : Nat) : cs u (x ^^^ 2 ^ i) = cs u x * chi (u.testBit i) := by
  unfold cs
  rw [Nat.and_xor_distrib_left, par_xor, chi_mul]
  cases h : u.testBit i
  · rw [and_pow0 h, par_zero]
  · rw [and_pow h, par_pow hi]
theorem spF_diff {n i : Nat} (hn : n ≤ 32) (hi : i < n) (g : Nat → Int) (u : Nat) : spF n (fun x => g x - g (x ^^^ 2 ^ i)) u = spF n g u - spF n g u * chi (u.testBit i) := by
  have h := sumI_xor_pow hi (fun x => g (x ^^^ 2 ^ i) * cs u x)
  have h2 : sumI (2 ^ n) (fun x => g (x ^^^ 2 ^ i ^^^ 2 ^ i) * cs u (x ^^^ 2 ^ i)) = spF n g u * chi (u.testBit i) := by
    unfold spF
    rw [← sumI_mul_r]
    refine sumI_congr fun x _ => ?_
    rw [Nat.xor_assoc, Nat.xor_self, Nat.xor_zero, cs_flip (by omega), Int.mul_assoc]
  rw [← h2, h]
  unfold spF
  rw [← sumI_sub_f]
  exact sumI_congr fun x _ => Int.sub_mul _ _ _
/-- The squares over the sets with a variable are its influence. -/
theorem infl_spec {n i : Nat} (hn : n ≤ 32) (hi : i < n) (w : Nat) : sumI (2 ^ n) (fun u => b2i (u.testBit i) * (spW n w u * spW n w u)) = ((2 ^ n : Nat) : Int) * infl n w i := by
  have P := parseval hn (fun x => chi (w.testBit x) - chi (w.testBit (x ^^^ 2 ^ i)))
  rw [sumI_congr (g := fun u => 4 * (b2i (u.testBit i) * (spW n w u * spW n w u))) fun u _ => ?_, sumI_congr (f := fun x => (chi (w.testBit x) - chi (w.testBit (x ^^^ 2 ^ i))) * (chi (w.testBit x) - chi (w.testBit (x ^^^ 2 ^ i)))) (g := fun x => 4 * b2i (chg w x (2 ^ i))) fun x _ => ?_, sumI_mul_l, sumI_mul_l] at P
  · rw [Int.mul_left_comm] at P
    unfold infl
    generalize sumI (2 ^ n) (fun u => b2i (u.testBit i) * (spW n w u * spW n w u)) = a at *
    generalize ((2 ^ n : Nat) : Int) * sumI (2 ^ n) (fun x => b2i (chg w x (2 ^ i))) = b at *
    omega
  · unfold chg
    cases w.testBit x <;> cases w.testBit (x ^^^ 2 ^ i) <;> rfl
  · rw [spF_diff hn hi (fun x => chi (w.testBit x)) u, ← spW_spF]
    generalize spW n w u = s
    cases u.testBit i
    · rw [show chi false = 1 from rfl, show b2i false = 0 from rfl, Int.mul_one, Int.sub_self, Int.zero_mul, Int.zero_mul, Int.mul_zero]
    · rw [show chi true = -1 from rfl, show b2i true = 1 from rfl, show s - s * -1 = 2 * s by omega, Int.one_mul, Int.mul_assoc, Int.mul_left_comm s 2, ← Int.mul_assoc 2 2]
      rfl
theorem pcf_sum (k : Nat) : ∀ x, ((pcf k x : Nat) : Int) = sumI k fun i => b2i (x.testBit i) := by
  induction k with
  | zero => intro x; rfl
  | succ k ih =>
    intro x
    have e : sumI (k + 1) (fun i => b2i (x.testBit i)) = sumI (1 + k) fun i => b2i (x.testBit i) := by rw [Nat.add_comm]
    rw [e, sumI_cat, sumI_congr (f := fun r => b2i (x.testBit (1 + r))) (g := fun r => b2i ((x / 2).testBit r)) fun r _ => by rw [Nat.add_comm, Nat.testBit_succ], ← ih]
    simp only [pcf, sumI]
    have h0 : ((x % 2 : Nat) : Int) = b2i (x.testBit 0) := by
      rw [Nat.testBit_zero]
      rcases Nat.mod_two_eq_zero_or_one x with h | h <;> rw [h] <;> rfl
    push_cast at h0 ⊢
    omega
theorem pc_sum {n u : Nat} (hn : n ≤ 32) (hu : u < 2 ^ n) : ((pc u : Nat) : Int) = sumI n fun i => b2i (u.testBit i) := by rw [pc_small hn hu, pcf_sum]
theorem weighed {n : Nat} (hn : n ≤ 32) (w : Nat) : sumI (2 ^ n) (fun u => ((pc u : Nat) : Int) * (spW n w u * spW n w u)) = ((2 ^ n : Nat) : Int) * sumI n (infl n w) := by
  rw [sumI_congr (g := fun u => sumI n fun i => b2i (u.testBit i) * (spW n w u * spW n w u)) fun u hu => by rw [pc_sum hn hu, sumI_mul_r], sumI_swap, ← sumI_mul_l]
  exact sumI_congr fun i hi => infl_spec hn hi w
/-- Energies by level weigh the influences. -/
theorem energy {n : Nat} (hn : n ≤ 32) (w : Nat) : sumI (n + 1) (fun k => (k : Int) * enrD n w k) = ((2 ^ n : Nat) : Int) * sumI n (infl n w) := by
  rw [← weighed hn w]
  unfold enrD enr
  rw [sumI_congr (g := fun k => sumI (2 ^ n) fun u => (k : Int) * if k = pc u then spW n w u * spW n w u else 0) fun k _ => (sumI_mul_l _ _ _).symm, sumI_swap]
  refine sumI_congr fun u hu => ?_
  have hp := pc_le_n hn hu
  rw [sumI_congr (g := fun k => if k = pc u then ((pc u : Nat) : Int) * (spW n w u * spW n w u) else 0) fun k _ => by
    by_cases e : k = pc u
    · rw [if_pos e, if_pos e, e]
    · rw [if_neg e, if_neg e, Int.mul_zero]]
  exact sumI_one (by omega) _
theorem chi_b2i (b : Bool) : chi b = 1 - 2 * b2i b := by cases b <;> rfl
theorem sumI_le_one (N : Nat) : sumI N (fun _ => 1) = N := by rw [sumI_all, Int.mul_one]
theorem spW_zero {n w : Nat} (hn : n ≤ 5) (hw : w < 2 ^ 2 ^ n) : spW n w 0 = ((2 ^ n : Nat) : Int) - 2 * ((pc w : Nat) : Int) := by
  have hs := pow62 hn
  unfold spW
  rw [sumI_congr (g := fun x => 1 - 2 * b2i (w.testBit x)) fun x _ => by rw [Nat.zero_and, par_zero, Bool.bne_false, chi_b2i], sumI_sub_f, sumI_le_one, sumI_mul_l, pc_sum (by omega) hw]
/-- Four times the variance is at most the weighed energies. -/
theorem poincare {n w : Nat} (hn : n ≤ 5) (hw : w < 2 ^ 2 ^ n) : 4 * (((pc w : Nat) : Int) * (((2 ^ n : Nat) : Int) - ((pc w : Nat) : Int))) ≤ ((2 ^ n : Nat) : Int) * sumI n (infl n w) := by
  have P := parseval (n := n) (by omega) (fun x => chi (w.testBit x))
  rw [sumI_congr (f := fun x => chi (w.testBit x) * chi (w.testBit x)) (g := fun _ => 1) fun x _ => by cases w.testBit x <;> rfl, sumI_le_one, sumI_congr (g := fun u => spW n w u * spW n w u) fun u _ => by rw [spW_spF]] at P
  rw [← weighed (by omega) w]
  have h2 := Nat.two_pow_pos n
  have hle : sumI (2 ^ n) (fun u => spW n w u * spW n w u - if u = 0 then spW n w 0 * spW n w 0 else 0) ≤ sumI (2 ^ n) (fun u => ((pc u : Nat) : Int) * (spW n w u * spW n w u)) := by
    refine sumI_le fun u hu => ?_
    by_cases e : u = 0
    · subst e
      rw [if_pos rfl, show pc 0 = 0 by decide +kernel]
      omega
    · rw [if_neg e]
      have hsq : 0 ≤ spW n w u * spW n w u := by
        have := sq_range (spW32 hn w u)
        omega
      have hp : (1 : Int) ≤ ((pc u : Nat) : Int) := by
        have hs := pc_sum (n := n) (by omega) hu
        obtain ⟨i, hi⟩ := Nat.exists_testBit_of_ne_zero e
        have hin : i < n := by
          apply Nat.lt_of_not_le
          intro hle
          have := Nat.testBit_lt_two_pow (Nat.lt_of_lt_of_le hu (Nat.pow_le_pow_right (by omega) hle))
          rw [this] at hi
          exact absurd hi (by decide)
        have h1 := sumI_le (n := n) (f := fun j => if j = i then 1 else 0) (g := fun j => b2i (u.testBit j)) fun j _ => by
          by_cases e : j = i
          · subst e
            rw [if_pos rfl, hi]
            decide
          · rw [if_neg e]
            exact (b2i_range _).1
        rw [sumI_one hin] at h1
        omega
      have := Int.mul_le_mul_of_nonneg_right hp hsq
      omega
  rw [sumI_sub_f, sumI_one h2, P, spW_zero hn hw] at hle
  refine Int.le_trans (Int.le_of_eq ?_) hle
  generalize ((2 ^ n : Nat) : Int) = N
  generalize ((pc w : Nat) : Int) = o
  have e : (N - 2 * o) * (N - 2 * o) = N * N - 4 * (o * (N - o)) := by
    simp only [Int.sub_mul, Int.mul_sub, Int.mul_assoc]
    rw [Int.mul_left_comm N 2 o, Int.mul_left_comm o 2 o, Int.mul_comm N o]
    omega
  omega
/-- Pairs in both orders. -/
theorem sumI_tri (h : Nat → Nat → Int) (hs : ∀ x y, h x y = h y x) (h0 : ∀ x, h x x = 0) (N : Nat) : sumI N (fun x => sumI N fun y => h x y) = 2 * sumI N fun x => sumI x fun y => h x y := by
  induction N with
  | zero => rfl
  | succ N ih =>
    simp only [sumI]
    rw [sumI_add_f, ih, h0, sumI_congr (f := fun i => h i N) (g := fun i => h N i) fun i _ => hs i N]
    omega
theorem hit_symm (w k x y : Nat) : hit w x k y = hit w y k x := by
  unfold hit
  rw [Nat.xor_comm, show (w.testBit x != w.testBit y) = (w.testBit y != w.testBit x) by cases w.testBit x <;> cases w.testBit y <;> rfl]
theorem hit_self (w k x : Nat) : hit w x k x = 0 := by
  unfold hit
  rw [bne_self_eq_false]
  rfl
theorem hit_all {n x y : Nat} (hn : n ≤ 32) (hx : x < 2 ^ n) (hy : y < 2 ^ n) (w : Nat) : sumI (n + 1) (fun k => hit w x k y) = b2i (w.testBit x != w.testBit y) := by
  have hp := pc_le_n hn (Nat.xor_lt_two_pow hx hy)
  unfold hit
  cases w.testBit x != w.testBit y
  · simp only [Bool.false_eq_true, if_false]
    rw [sumI_zero]
    rfl
  · simp only [if_true]
    rw [sumI_one (by omega)]
    rfl
/-- All pairs with different values: ones times zeros. -/
theorem pairs_all {n w : Nat} (hn : n ≤ 5) (hw : w < 2 ^ 2 ^ n) : sumI (n + 1) (pairsD n w) = ((pc w : Nat) : Int) * (((2 ^ n : Nat) : Int) - ((pc w : Nat) : Int)) := by
  have hs := pow62 hn
  have e1 : sumI (n + 1) (pairsD n w) = sumI (2 ^ n) fun x => sumI x fun y => b2i (w.testBit x != w.testBit y) := by
    unfold pairsD
    rw [sumI_swap]
    refine sumI_congr fun x hx => ?_
    rw [sumI_swap]
    exact sumI_congr fun y hy => hit_all (by omega) hx (by omega) w
  have e2 := sumI_tri (fun x y => b2i (w.testBit x != w.testBit y)) (fun x y => by cases w.testBit x <;> cases w.testBit y <;> rfl) (fun x => by rw [bne_self_eq_false]; rfl) (2 ^ n)
  have e3 : sumI (2 ^ n) (fun x => sumI (2 ^ n) fun y => b2i (w.testBit x != w.testBit y)) = 2 * (((pc w : Nat) : Int) * (((2 ^ n : Nat) : Int) - ((pc w : Nat) : Int))) := by
    rw [sumI_congr (g := fun x => b2i (w.testBit x) * (((2 ^ n : Nat) : Int) - 2 * ((pc w : Nat) : Int)) + ((pc w : Nat) : Int)) fun x _ => ?_, sumI_add_f, sumI_mul_r, ← pc_sum (by omega) hw, sumI_all]
    · generalize ((2 ^ n : Nat) : Int) = N
      generalize ((pc w : Nat) : Int) = o
      simp only [Int.mul_sub]
      rw [Int.mul_left_comm o 2 o, Int.mul_comm N o]
      omega
    · rw [pc_sum (by omega) hw]
      cases w.testBit x
      · rw [sumI_congr (g := fun y => b2i (w.testBit y)) fun y _ => by rw [Bool.false_bne], show b2i false = 0 from rfl, Int.zero_mul, Int.zero_add]
      · rw [sumI_congr (g := fun y => 1 - b2i (w.testBit y)) fun y _ => by cases w.testBit y <;> rfl, sumI_sub_f, sumI_le_one, show b2i true = 1 from rfl, Int.one_mul]
        omega
  rw [e1]
  omega
theorem sumI_xor {n x : Nat} (hx : x < 2 ^ n) (f : Nat → Int) : sumI (2 ^ n) (fun z => f (x ^^^ z)) = sumI (2 ^ n) f := by
  have h1 : sumI (2 ^ n) (fun z => f (x ^^^ z)) = sumI (2 ^ n) fun z => sumI (2 ^ n) fun y => if y = x ^^^ z then f y else 0 := by
    refine sumI_congr fun z hz => ?_
    rw [sumI_congr (g := fun y => if y = x ^^^ z then f (x ^^^ z) else 0) fun y _ => by
      by_cases e : y = x ^^^ z
      · rw [if_pos e, if_pos e, e]
      · rw [if_neg e, if_neg e]]
    exact (sumI_one (Nat.xor_lt_two_pow hx hz) _).symm
  rw [h1, sumI_swap]
  refine sumI_congr fun y hy => ?_
  rw [sumI_congr (g := fun z => if z = x ^^^ y then f y else 0) fun z _ => by
    by_cases e : y = x ^^^ z
    · rw [if_pos e, if_pos (by rw [e, ← Nat.xor_assoc, Nat.xor_self, Nat.zero_xor])]
    · rw [if_neg e, if_neg (fun h => e (by rw [h, ← Nat.xor_assoc, Nat.xor_self, Nat.zero_xor]))]]
  exact sumI_one (Nat.xor_lt_two_pow hx hy) _
theorem pcs0 : (List.range 32).map pc = [0, 1, 1, 2, 1, 2, 2, 3, 1, 2, 2, 3, 2, 3, 3, 4, 1, 2, 2, 3, 2, 3, 3, 4, 2, 3, 3, 4, 3, 4, 4, 5] := by decide +kernel
theorem pc_at {z v : Nat} (h : ((List.range 32).map pc)[z]? = some v) : pc z = v := by
  rw [List.getElem?_map, Option.map_eq_some_iff] at h
  obtain ⟨a, h1, h2⟩ := h
  have := List.getElem?_range (n := 32) (i := z)
  rw [List.getElem?_eq_some_iff] at h1
  obtain ⟨_, h1⟩ := h1
  rw [List.getElem_range] at h1
  subst h1
  exact h2
/-- A sum over the sets of one variable. -/
theorem sumI_ones {n : Nat} (hn : n ≤ 5) (H : Nat → Int) : sumI (2 ^ n) (fun z => if 1 = pc z then H z else 0) = sumI n fun i => H (2 ^ i) := by
  have hp : ∀ z, z < 32 → pc z = [0, 1, 1, 2, 1, 2, 2, 3, 1, 2, 2, 3, 2, 3, 3, 4, 1, 2, 2, 3, 2, 3, 3, 4, 2, 3, 3, 4, 3, 4, 4, 5].getD z 0 := by decide +kernel
  have hs := pow62 hn
  rw [sumI_congr (g := fun z => if 1 = [0, 1, 1, 2, 1, 2, 2, 3, 1, 2, 2, 3, 2, 3, 3, 4, 1, 2, 2, 3, 2, 3, 3, 4, 2, 3, 3, 4, 3, 4, 4, 5].getD z 0 then H z else 0) fun z hz => by rw [hp z (by omega)]]
  rcases (by omega : n = 0 ∨ n = 1 ∨ n = 2 ∨ n = 3 ∨ n = 4 ∨ n = 5) with rfl | rfl | rfl | rfl | rfl | rfl <;> simp [sumI]
/-- Twice the pairs at distance 1 are the influences. -/
theorem pairs_one {n : Nat} (hn : n ≤ 5) (w : Nat) : 2 * pairsD n w 1 = sumI n (infl n w) := by
  have e := sumI_tri (fun x y => hit w x 1 y) (fun x y => hit_symm w 1 x y) (fun x => hit_self w 1 x) (2 ^ n)
  have e2 : sumI (2 ^ n) (fun x => sumI (2 ^ n) fun y => hit w x 1 y) = sumI (2 ^ n) fun x => sens n w x := by
    refine sumI_congr fun x hx => ?_
    rw [← sumI_xor hx]
    have : ∀ z, z < 2 ^ n → hit w x 1 (x ^^^ z) = if 1 = pc z then b2i (chg w x z) else 0 := by
      intro z _
      unfold hit chg
      rw [← Nat.xor_assoc, Nat.xor_self, Nat.zero_xor]
      cases w.testBit x != w.testBit (x ^^^ z) <;> simp [b2i]
    rw [sumI_congr this, sumI_ones hn]
    rfl
  rw [e2, edges_twice] at e
  unfold pairsD
  exact e.symm
/-- No influence is greater than the first greatest one's. -/
theorem mi_max (n w : Nat) : ∀ j i, i < j → infl n w i ≤ infl n w (mi n w j).toNat := by
  intro j
  induction j with
  | zero => intro i hi; omega
  | succ j ih =>
    intro i hi
    have hr := mi_range n w j
    simp only [mi]
    by_cases h0 : mi n w j < 0
    · rw [if_pos h0, Int.toNat_natCast]
      rcases Nat.lt_or_ge 0 j with h | h
      · have := hr.2.2 h
        omega
      · rw [show i = j by omega]
        exact Int.le_refl _
    · rw [if_neg h0]
      by_cases h1 : infl n w j > infl n w (mi n w j).toNat
      · rw [if_pos h1, Int.toNat_natCast]
        rcases Nat.lt_or_ge i j with h | h
        · have := ih i h
          omega
        · rw [show i = j by omega]
          exact Int.le_refl _
      · rw [if_neg h1]
        rcases Nat.lt_or_ge i j with h | h
        · exact ih i h
        · rw [show i = j by omega]
          omega
end Go.Proofs.YtplnffhjpmnifaaMath
