/- Cubes of inputs, certificates and how they meet. Conditions: numbers below 32. -/
import Derived.Test.YtplnffhjpmnifaaPop
namespace Go.Proofs.YtplnffhjpmnifaaMath
open Go.RowKit Go.Proofs.YtplnffhjpmnifaaW.PrintWords Go.Proofs.YtplnffhjpmnifaaW.PrintLast Go.Proofs.YtplnffhjpmnifaaW.PrintMore
set_option linter.unusedVariables false
set_option linter.unusedSimpArgs false

/-- Two answers, then a round. -/
theorem evs2 {A B R : Type} {g : Nat → Option A} {h : Nat → Option B} {a : A} {b : B} (hg : Ev g a) (hh : Ev h b) {F G : Nat → Option R} {r : R} (key : ∀ k, g k = some a → h k = some b → F (k + 1) = G k) (hG : Ev G r) : Ev F r := by
  obtain ⟨K, hg⟩ := hg
  obtain ⟨L, hh⟩ := hh
  obtain ⟨M, hG⟩ := hG
  refine ⟨K + L + M + 1, fun k hk => ?_⟩
  obtain ⟨m, rfl⟩ : ∃ m, k = m + 1 := ⟨k - 1, by omega⟩
  exact (key m (hg m (by omega)) (hh m (by omega))).trans (hG m (by omega))
theorem evs3 {A B C R : Type} {g : Nat → Option A} {h : Nat → Option B} {p : Nat → Option C} {a : A} {b : B} {c : C} (hg : Ev g a) (hh : Ev h b) (hp : Ev p c) {F G : Nat → Option R} {r : R} (key : ∀ k, g k = some a → h k = some b → p k = some c → F (k + 1) = G k) (hG : Ev G r) : Ev F r := by
  obtain ⟨K, hg⟩ := hg
  obtain ⟨L, hh⟩ := hh
  obtain ⟨M, hp⟩ := hp
  obtain ⟨T, hG⟩ := hG
  refine ⟨K + L + M + T + 1, fun k hk => ?_⟩
  obtain ⟨m, rfl⟩ : ∃ m, k = m + 1 := ⟨k - 1, by omega⟩
  exact (key m (hg m (by omega)) (hh m (by omega)) (hp m (by omega))).trans (hG m (by omega))
/-- Does a value occur in a cube among the first inputs? -/
def seenB (w m v : Nat) (b : Bool) : Nat → Bool
  | 0 => false
  | x + 1 => seenB w m v b x || ((x &&& m == v) && (w.testBit x == b))
def cubeV (n w m v : Nat) : Int := if seenB w m v true (2 ^ n) = true then (if seenB w m v false (2 ^ n) = true then 2 else 1) else 0
def cubeOut (w m v x : Nat) : Int := if seenB w m v true x = true then 1 else (if seenB w m v false x = true then 0 else -1)
def cubeBoth (w m v x : Nat) : Bool := seenB w m v true x && seenB w m v false x
theorem seenB_at {w m v N x : Nat} (h : x < N) (e : x &&& m = v) : seenB w m v (w.testBit x) N = true := by
  induction N with
  | zero => omega
  | succ N ih =>
    simp only [seenB]
    by_cases hx : x = N
    · subst hx
      simp [e]
    · rw [ih (by omega), Bool.true_or]
theorem cubeV_both {n w m v : Nat} (h : cubeBoth w m v (2 ^ n) = true) : cubeV n w m v = 2 := by
  unfold cubeBoth at h
  rw [Bool.and_eq_true] at h
  unfold cubeV
  rw [if_pos h.1, if_pos h.2]
theorem cubeV_out {n w m v x : Nat} (hx : x < 2 ^ n) (e : x &&& m = v) (h : ¬ cubeBoth w m v (2 ^ n) = true) : cubeOut w m v (2 ^ n) = cubeV n w m v := by
  have hs := seenB_at (w := w) hx e
  unfold cubeBoth at h
  unfold cubeOut cubeV
  cases ht : w.testBit x
  · rw [ht] at hs
    rw [hs, Bool.and_true] at h
    rw [if_neg h, if_neg h, if_pos hs]
  · rw [ht] at hs
    rw [hs, Bool.true_and] at h
    rw [if_pos hs, if_pos hs, if_neg h]
theorem cubeV_range (n w m v : Nat) : cubeV n w m v = 0 ∨ cubeV n w m v = 1 ∨ cubeV n w m v = 2 := by
  unfold cubeV
  split
  · split
    · exact .inr (.inr rfl)
    · exact .inr (.inl rfl)
  · exact .inl rfl
def certOk (n w m x : Nat) : Bool := decide (cubeV n w m (x &&& m) < 2)
theorem certOk_ne (n w m x : Nat) : (cubeV n w m (x &&& m) != 2) = certOk n w m x := by
  unfold certOk
  rcases cubeV_range n w m (x &&& m) with e | e | e <;> rw [e] <;> rfl
/-- The best certificate among the first sets. -/
def certB (n w x : Nat) : Nat → Nat
  | 0 => 2 ^ n - 1
  | m + 1 => if pc m < pc (certB n w x m) then (if certOk n w m x = true then m else certB n w x m) else certB n w x m
def cert (n w x : Nat) : Nat := certB n w x (2 ^ n)
theorem certB_lt (n w x : Nat) {m : Nat} (h : m ≤ 2 ^ n) : certB n w x m < 2 ^ n := by
  induction m with
  | zero => have := Nat.two_pow_pos n; simp only [certB]; omega
  | succ m ih =>
    simp only [certB]
    split
    · split
      · omega
      · exact ih (by omega)
    · exact ih (by omega)
theorem cert_lt (n w x : Nat) : cert n w x < 2 ^ n := certB_lt n w x (Nat.le_refl _)
def certM (n w : Nat) (a : Int) : Nat → Int
  | 0 => 0
  | x + 1 => if b2i (w.testBit x) = a then mx (certM n w a x) ((pc (cert n w x) : Nat) : Int) else certM n w a x
/-- Do the certificates of two inputs with unlike values meet where the inputs differ? -/
def meets (n w x y : Nat) : Bool := (w.testBit x == w.testBit y) || ((cert n w x &&& cert n w y) &&& (x ^^^ y) != 0)
theorem meets_symm (n w x y : Nat) : meets n w x y = meets n w y x := by
  unfold meets
  rw [Nat.and_comm (cert n w x), Nat.xor_comm x y, Bool.eq_iff_iff]
  simp only [Bool.or_eq_true, beq_iff_eq]
  constructor <;> (rintro (h | h); exact .inl h.symm; exact .inr h)
theorem meets_self (n w x : Nat) : meets n w x x = true := by unfold meets; simp
def meetAll (n w N x : Nat) : Bool := (List.range N).all fun y => meets n w x y
theorem meetAll_succ (n w N x : Nat) : meetAll n w (N + 1) x = (meetAll n w N x && meets n w x N) := by simp [meetAll, List.range_succ]
def meetF (n w N : Nat) (x : Nat) : Bool := (List.range x).all fun x => meetAll n w N x
def meetH (n w : Nat) (x : Nat) : Bool := (List.range x).all fun x => meetAll n w x x
theorem meetF_succ (n w N x : Nat) : meetF n w N (x + 1) = (meetF n w N x && meetAll n w N x) := by simp [meetF, List.range_succ]
theorem meetH_succ (n w x : Nat) : meetH n w (x + 1) = (meetH n w x && meetAll n w x x) := by simp [meetH, List.range_succ]
theorem meet_same (n w N : Nat) : meetF n w N N = meetH n w N := by
  rw [Bool.eq_iff_iff]
  simp only [meetF, meetH, meetAll, List.all_eq_true, List.mem_range]
  constructor
  · intro h x hx y hy
    exact h x hx y (by omega)
  · intro h x hx y hy
    by_cases hxy : y < x
    · exact h x hx y hxy
    · by_cases e : x = y
      · subst e; exact meets_self n w x
      · rw [meets_symm]; exact h y hy x (by omega)
end Go.Proofs.YtplnffhjpmnifaaMath
