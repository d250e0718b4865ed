/- The least depth and the least sum of questions about what is left of a table; adversaries. Conditions: each lemma names its own. -/
import Derived.Test.YteljkpglgjjnlaaCub
namespace Go.Proofs.YteljkpglgjjnlaaMath
open Go.RowKit Go.Proofs.YteljkpglgjjnlaaW.PrintWords Go.Proofs.YteljkpglgjjnlaaW.PrintLast Go.Proofs.YteljkpglgjjnlaaW.PrintMore
set_option linter.unusedVariables false
set_option linter.unusedSimpArgs false

/-! ### What is known -/
/-! ### Variables that are not asked yet -/
def frees (m : Nat) : Nat → Nat
  | 0 => 0
  | i + 1 => if m.testBit i = true then frees m i else frees m i + 1
theorem frees_le (m n : Nat) : frees m n ≤ n := by
  induction n with
  | zero => exact Nat.le_refl _
  | succ n ih => simp only [frees]; split <;> omega
theorem frees_or_ge {m i n : Nat} (h : n ≤ i) : frees (m ||| 2 ^ i) n = frees m n := by
  induction n with
  | zero => rfl
  | succ n ih =>
    simp only [frees]
    rw [ih (by omega), Nat.testBit_or, Nat.testBit_two_pow, decide_eq_false (by omega), Bool.or_false]
theorem frees_or {m i n : Nat} (h : i < n) (hb : m.testBit i = false) : frees (m ||| 2 ^ i) n + 1 = frees m n := by
  induction n with
  | zero => omega
  | succ n ih =>
    simp only [frees]
    by_cases e : i = n
    · subst e
      rw [frees_or_ge (Nat.le_refl _), Nat.testBit_or, Nat.testBit_two_pow_self, hb]
      simp
    · rw [Nat.testBit_or, Nat.testBit_two_pow, decide_eq_false (fun h => e h), Bool.or_false]
      have := ih (by omega)
      split <;> omega
theorem frees_none {m n : Nat} (h : frees m n = 0) : ∀ i, i < n → m.testBit i = true := by
  induction n with
  | zero => intro i hi; omega
  | succ n ih =>
    simp only [frees] at h
    split at h
    · rename_i ht
      intro i hi
      by_cases e : i = n
      · subst e; exact ht
      · exact ih h i (by omega)
    · omega
theorem frees_some {m n : Nat} (h : 0 < frees m n) : ∃ i, i < n ∧ m.testBit i = false := by
  induction n with
  | zero => simp [frees] at h
  | succ n ih =>
    simp only [frees] at h
    split at h
    · obtain ⟨i, hi, hb⟩ := ih h
      exact ⟨i, by omega, hb⟩
    · rename_i ht
      exact ⟨n, by omega, by simpa using ht⟩
theorem seenB_iff {w m v : Nat} {b : Bool} {N : Nat} : seenB w m v b N = true ↔ ∃ x, x < N ∧ x &&& m = v ∧ w.testBit x = b := by
  induction N with
  | zero => simp [seenB]
  | succ N ih =>
    simp only [seenB, Bool.or_eq_true, Bool.and_eq_true, beq_iff_eq]
    rw [ih]
    constructor
    · rintro (⟨x, hx, h1, h2⟩ | ⟨h1, h2⟩)
      · exact ⟨x, by omega, h1, h2⟩
      · exact ⟨N, by omega, h1, h2⟩
    · rintro ⟨x, hx, h1, h2⟩
      by_cases e : x = N
      · subst e; exact .inr ⟨h1, h2⟩
      · exact .inl ⟨x, by omega, h1, h2⟩
theorem and_full {m n x : Nat} (h : ∀ i, i < n → m.testBit i = true) (hx : x < 2 ^ n) : x &&& m = x := by
  apply Nat.eq_of_testBit_eq
  intro i
  rw [Nat.testBit_and]
  by_cases hi : i < n
  · rw [h i hi, Bool.and_true]
  · rw [Nat.testBit_lt_two_pow (Nat.lt_of_lt_of_le hx (Nat.pow_le_pow_right (by omega) (by omega))), Bool.false_and]
theorem cubeV_two {n w m v : Nat} : cubeV n w m v = 2 ↔ seenB w m v true (2 ^ n) = true ∧ seenB w m v false (2 ^ n) = true := by
  unfold cubeV
  cases seenB w m v true (2 ^ n) <;> cases seenB w m v false (2 ^ n) <;> simp
theorem cubeV_free {n w m v : Nat} (h : cubeV n w m v = 2) : 0 < frees m n := by
  obtain ⟨h1, h2⟩ := cubeV_two.1 h
  obtain ⟨x, hx, ex, bx⟩ := seenB_iff.1 h1
  obtain ⟨y, hy, ey, by_⟩ := seenB_iff.1 h2
  apply Nat.pos_of_ne_zero
  intro h0
  have hf := frees_none h0
  rw [and_full hf hx] at ex
  rw [and_full hf hy] at ey
  subst ex
  subst ey
  rw [bx] at by_
  exact Bool.noConfusion by_
/-! ### The least of some numbers -/
def leastI (p : Nat → Bool) (g : Nat → Int) (b : Int) : Nat → Int
  | 0 => b
  | i + 1 => if p i = true then mn (leastI p g b i) (g i) else leastI p g b i
theorem mn_min (a b : Int) : mn a b = min a b := by unfold mn; split <;> omega
theorem mn_le (a b : Int) : mn a b ≤ a ∧ mn a b ≤ b := by unfold mn; split <;> omega
theorem mn_ge {a b c : Int} (h1 : c ≤ a) (h2 : c ≤ b) : c ≤ mn a b := by unfold mn; split <;> omega
theorem mx_ge (a b : Int) : a ≤ mx a b ∧ b ≤ mx a b := by unfold mx; split <;> omega
theorem mx_le {a b c : Int} (h1 : a ≤ c) (h2 : b ≤ c) : mx a b ≤ c := by unfold mx; split <;> omega
theorem leastI_congr {p : Nat → Bool} {g g' : Nat → Int} {b : Int} {n : Nat} (h : ∀ i, i < n → p i = true → g i = g' i) : leastI p g b n = leastI p g' b n := by
  induction n with
  | zero => rfl
  | succ n ih =>
    simp only [leastI]
    rw [ih fun i hi => h i (by omega)]
    split
    · rename_i hp; rw [h n (by omega) hp]
    · rfl
theorem leastI_le_start (p : Nat → Bool) (g : Nat → Int) (b : Int) (n : Nat) : leastI p g b n ≤ b := by
  induction n with
  | zero => exact Int.le_refl _
  | succ n ih =>
    simp only [leastI]
    split
    · exact Int.le_trans (mn_le _ _).1 ih
    · exact ih
theorem leastI_le {p : Nat → Bool} {g : Nat → Int} {b : Int} {n i : Nat} (hi : i < n) (hp : p i = true) : leastI p g b n ≤ g i := by
  induction n with
  | zero => omega
  | succ n ih =>
    simp only [leastI]
    by_cases e : i = n
    · subst e
      rw [if_pos hp]
      exact (mn_le _ _).2
    · split
      · exact Int.le_trans (mn_le _ _).1 (ih (by omega))
      · exact ih (by omega)
theorem leastI_ge {p : Nat → Bool} {g : Nat → Int} {b c : Int} {n : Nat} (hb : c ≤ b) (h : ∀ i, i < n → p i = true → c ≤ g i) : c ≤ leastI p g b n := by
  induction n with
  | zero => exact hb
  | succ n ih =>
    simp only [leastI]
    split
    · rename_i hp
      exact mn_ge (ih fun i hi => h i (by omega)) (h n (by omega) hp)
    · exact ih fun i hi => h i (by omega)
/-! ### The least depth -/
def opens (m i : Nat) : Bool := !m.testBit i
theorem opens_yes {m i : Nat} : opens m i = true ↔ m.testBit i = false := by unfold opens; simp
def lev (n w : Nat) : Nat → Nat → Nat → Int
  | 0, _, _ => 0
  | d + 1, m, v => if cubeV n w m v = 2 then leastI (opens m) (fun i => 1 + mx (lev n w d (m ||| 2 ^ i) v) (lev n w d (m ||| 2 ^ i) (v ||| 2 ^ i))) n n else 0
def askD (n w m v : Nat) : Int := lev n w (frees m n) m v
theorem askD_eq (n w m v : Nat) : askD n w m v = if cubeV n w m v = 2 then leastI (opens m) (fun i => 1 + mx (askD n w (m ||| 2 ^ i) v) (askD n w (m ||| 2 ^ i) (v ||| 2 ^ i))) n n else 0 := by
  by_cases hc : cubeV n w m v = 2
  · obtain ⟨d, hd⟩ : ∃ d, frees m n = d + 1 := ⟨frees m n - 1, by have := cubeV_free hc; omega⟩
    rw [if_pos hc]
    unfold askD
    rw [hd]
    simp only [lev]
    rw [if_pos hc]
    refine leastI_congr fun i hi hp => ?_
    have hf := frees_or hi (opens_yes.1 hp)
    rw [show frees (m ||| 2 ^ i) n = d by omega]
  · rw [if_neg hc]
    unfold askD
    cases frees m n with
    | zero => rfl
    | succ d => simp only [lev]; rw [if_neg hc]
theorem askD_bound {n w : Nat} : ∀ d m v, frees m n ≤ d → 0 ≤ askD n w m v ∧ askD n w m v ≤ frees m n := by
  intro d
  induction d with
  | zero =>
    intro m v hd
    rw [askD_eq, if_neg (fun h => by have := cubeV_free h; omega)]
    omega
  | succ d ih =>
    intro m v hd
    rw [askD_eq]
    split
    · rename_i hc
      obtain ⟨i, hi, hb⟩ := frees_some (cubeV_free hc)
      constructor
      · refine leastI_ge (by omega) fun j hj hp => ?_
        have hf := frees_or hj (opens_yes.1 hp)
        have h1 := ih (m ||| 2 ^ j) v (by omega)
        have := mx_ge (askD n w (m ||| 2 ^ j) v) (askD n w (m ||| 2 ^ j) (v ||| 2 ^ j))
        omega
      · have hf := frees_or hi hb
        have h1 := ih (m ||| 2 ^ i) v (by omega)
        have h2 := ih (m ||| 2 ^ i) (v ||| 2 ^ i) (by omega)
        have h3 := mx_le h1.2 h2.2
        refine Int.le_trans (leastI_le hi (opens_yes.2 hb)) ?_
        omega
    · omega
/-! ### The least sum -/
def lav (n w : Nat) : Nat → Nat → Nat → Int
  | 0, _, _ => 0
  | d + 1, m, v => if cubeV n w m v = 2 then leastI (opens m) (fun i => ((2 ^ (d + 1) : Nat) : Int) + lav n w d (m ||| 2 ^ i) v + lav n w d (m ||| 2 ^ i) (v ||| 2 ^ i)) (((2 ^ (d + 1) : Nat) : Int) * n) n else 0
def avg (n w m v : Nat) : Int := lav n w (frees m n) m v
def avgS (n w m v i : Nat) : Int := ((2 ^ frees m n : Nat) : Int) + avg n w (m ||| 2 ^ i) v + avg n w (m ||| 2 ^ i) (v ||| 2 ^ i)
theorem avg_eq (n w m v : Nat) : avg n w m v = if cubeV n w m v = 2 then leastI (opens m) (avgS n w m v) (((2 ^ frees m n : Nat) : Int) * n) n else 0 := by
  by_cases hc : cubeV n w m v = 2
  · obtain ⟨d, hd⟩ : ∃ d, frees m n = d + 1 := ⟨frees m n - 1, by have := cubeV_free hc; omega⟩
    rw [if_pos hc]
    unfold avg
    rw [hd]
    simp only [lav]
    rw [if_pos hc]
    refine leastI_congr fun i hi hp => ?_
    have hf := frees_or hi (opens_yes.1 hp)
    unfold avgS avg
    rw [hd, show frees (m ||| 2 ^ i) n = d by omega]
  · rw [if_neg hc]
    unfold avg
    cases frees m n with
    | zero => rfl
    | succ d => simp only [lav]; rw [if_neg hc]
theorem avg_bound {n w : Nat} : ∀ d m v, frees m n ≤ d → 0 ≤ avg n w m v ∧ avg n w m v ≤ ((2 ^ frees m n : Nat) : Int) * frees m n := by
  intro d
  induction d with
  | zero =>
    intro m v hd
    rw [avg_eq, if_neg (fun h => by have := cubeV_free h; omega)]
    exact ⟨Int.le_refl _, Int.mul_nonneg (Int.natCast_nonneg _) (Int.natCast_nonneg _)⟩
  | succ d ih =>
    intro m v hd
    rw [avg_eq]
    split
    · rename_i hc
      obtain ⟨i, hi, hb⟩ := frees_some (cubeV_free hc)
      constructor
      · refine leastI_ge (Int.mul_nonneg (Int.natCast_nonneg _) (Int.natCast_nonneg _)) fun j hj hp => ?_
        have hf := frees_or hj (opens_yes.1 hp)
        have h1 := ih (m ||| 2 ^ j) v (by omega)
        have h2 := ih (m ||| 2 ^ j) (v ||| 2 ^ j) (by omega)
        exact Int.add_nonneg (Int.add_nonneg (Int.natCast_nonneg _) h1.1) h2.1
      · have hf := frees_or hi hb
        have h1 := ih (m ||| 2 ^ i) v (by omega)
        have h2 := ih (m ||| 2 ^ i) (v ||| 2 ^ i) (by omega)
        refine Int.le_trans (leastI_le hi (opens_yes.2 hb)) ?_
        unfold avgS
        rw [← hf] at *
        generalize frees (m ||| 2 ^ i) n = e at *
        generalize avg n w (m ||| 2 ^ i) v = a at *
        generalize avg n w (m ||| 2 ^ i) (v ||| 2 ^ i) = b at *
        have e1 : ((2 ^ (e + 1) : Nat) : Int) = 2 * ((2 ^ e : Nat) : Int) := by rw [Nat.pow_succ]; omega
        have e2 : ((2 ^ (e + 1) : Nat) : Int) * ((e + 1 : Nat) : Int) = 2 * (((2 ^ e : Nat) : Int) * (e : Int)) + ((2 ^ (e + 1) : Nat) : Int) := by
          rw [e1]
          generalize ((2 ^ e : Nat) : Int) = p
          rw [Int.natCast_add, Int.mul_add, Int.mul_assoc]
          simp
        rw [e2]
        omega
    · exact ⟨Int.le_refl _, Int.mul_nonneg (Int.natCast_nonneg _) (Int.natCast_nonneg _)⟩
theorem pow_mul_le {d n : Nat} (hd : d ≤ n) (hn : n ≤ 4) : 2 ^ d * n ≤ 64 := by
  have h1 : 2 ^ d ≤ 2 ^ 4 := Nat.pow_le_pow_right (by omega) (by omega)
  have h2 : 2 ^ d * n ≤ 2 ^ 4 * 4 := Nat.mul_le_mul h1 hn
  omega
theorem avg_range {n : Nat} (hn : n ≤ 4) (w m v : Nat) : 0 ≤ avg n w m v ∧ avg n w m v ≤ 64 := by
  have h := avg_bound (n := n) (w := w) (frees m n) m v (Nat.le_refl _)
  have h1 := frees_le m n
  have h2 := pow_mul_le (d := frees m n) (n := frees m n) (Nat.le_refl _) (by omega)
  generalize frees m n = e at *
  have e1 : ((2 ^ e : Nat) : Int) * (e : Int) = ((2 ^ e * e : Nat) : Int) := by push_cast; rfl
  omega
/-! ### The first variable of the best tree -/
def good (n w m v i : Nat) : Bool := opens m i && decide (askD n w (m ||| 2 ^ i) v < askD n w m v) && decide (askD n w (m ||| 2 ^ i) (v ||| 2 ^ i) < askD n w m v)
/-- The first variable from i on that is good, among n; -1 if there is none. -/
def firstG (n w m v : Nat) : Nat → Nat → Int
  | 0, _ => -1
  | d + 1, i => if good n w m v i = true then (i : Int) else firstG n w m v d (i + 1)
/-! ### The adversary -/
/-- What is known of a value, with an answer. -/
def ans (v i b : Nat) : Nat := v ||| b * 2 ^ i
theorem ans_zero (v i : Nat) : ans v i 0 = v := by unfold ans; simp
theorem ans_one (v i : Nat) : ans v i 1 = v ||| 2 ^ i := by unfold ans; simp
theorem or_lt {n m i : Nat} (hm : m < 2 ^ n) (hi : i < n) : m ||| 2 ^ i < 2 ^ n := Nat.or_lt_two_pow hm (Nat.pow_lt_pow_right (by omega) hi)
theorem ans_sub {m v i b : Nat} (h : v &&& m = v) (hb : b ≤ 1) : ans v i b &&& (m ||| 2 ^ i) = ans v i b := by
  apply Nat.eq_of_testBit_eq
  intro j
  have hj : (v.testBit j && m.testBit j) = v.testBit j := by rw [← Nat.testBit_and, h]
  rcases (by omega : b = 0 ∨ b = 1) with rfl | rfl
  · rw [ans_zero, Nat.testBit_and, Nat.testBit_or]
    cases h1 : v.testBit j <;> cases h2 : m.testBit j <;> simp_all
  · rw [ans_one, Nat.testBit_and, Nat.testBit_or, Nat.testBit_or]
    cases h1 : v.testBit j <;> cases h2 : m.testBit j <;> simp_all
theorem sub_zero {m v i : Nat} (h : v &&& m = v) : v &&& (m ||| 2 ^ i) = v := by
  have := ans_sub (i := i) (b := 0) h (by omega)
  rwa [ans_zero] at this
theorem sub_one {m v i : Nat} (h : v &&& m = v) : (v ||| 2 ^ i) &&& (m ||| 2 ^ i) = v ||| 2 ^ i := by
  have := ans_sub (i := i) (b := 1) h (by omega)
  rwa [ans_one] at this
end Go.Proofs.YteljkpglgjjnlaaMath
