/- Words whose values a function tells; parities over parts. Conditions: at most 32 values. -/
import Derived.Test.YteljkpglgjjnlaaCof
namespace Go.Proofs.YteljkpglgjjnlaaMath
open Go.RowKit Go.Proofs.YteljkpglgjjnlaaW.PrintWords Go.Proofs.YteljkpglgjjnlaaW.PrintLast Go.Proofs.YteljkpglgjjnlaaW.PrintMore
set_option linter.unusedVariables false
set_option linter.unusedSimpArgs false

def wordN (g : Nat → Bool) : Nat → Nat
  | 0 => 0
  | x + 1 => if g x = true then wordN g x ||| 2 ^ x else wordN g x
theorem wordN_lt (g : Nat → Bool) (x : Nat) : wordN g x < 2 ^ x := by
  induction x with
  | zero => simp [wordN]
  | succ x ih =>
    have e : 2 ^ (x + 1) = 2 ^ x + 2 ^ x := by rw [Nat.pow_succ]; omega
    have := Nat.two_pow_pos x
    simp only [wordN]
    split
    · exact Nat.or_lt_two_pow (by omega) (by omega)
    · omega
theorem wordN_congr {g h : Nat → Bool} {N : Nat} (e : ∀ x, x < N → g x = h x) : wordN g N = wordN h N := by
  induction N with
  | zero => rfl
  | succ N ih => simp only [wordN]; rw [ih fun x hx => e x (by omega), e N (by omega)]
theorem wordN_step {g : Nat → Bool} {x : Nat} (hx : x < 32) : Go.bits .or .i64 ((wordN g x : Nat) : Int) (shl .i64 (b2i (g x)) (x : Int)) = ((wordN g (x + 1) : Nat) : Int) := by
  have h1 := wordN_lt g x
  have hp : 2 ^ x ≤ 2 ^ 31 := Nat.pow_le_pow_right (by omega) (by omega)
  simp only [wordN]
  cases hg : g x
  · rw [show b2i false = ((0 : Nat) : Int) from rfl, shlN (by omega), borN (by omega) (by omega), Nat.zero_mul, Nat.or_zero, if_neg (by decide)]
  · rw [show b2i true = ((1 : Nat) : Int) from rfl, shlN (by omega), borN (by omega) (by omega), Nat.one_mul, if_pos rfl]
theorem wordN_or {g : Nat → Bool} {x : Nat} (hx : x < 32) (hg : g x = true) : Go.bits .or .i64 ((wordN g x : Nat) : Int) (wrap64 ((2 : Int) ^ x)) = ((wordN g (x + 1) : Nat) : Int) := by
  have h1 := wordN_lt g x
  have hp : 2 ^ x ≤ 2 ^ 31 := Nat.pow_le_pow_right (by omega) (by omega)
  have e : ((2 : Int) ^ x) = ((2 ^ x : Nat) : Int) := by push_cast; rfl
  rw [e, w64 (by omega) (by omega), borN (by omega) (by omega)]
  simp only [wordN]
  rw [if_pos hg]
/-- The parity of the values at the parts of an input. -/
def ap (w m : Nat) : Nat → Bool
  | 0 => false
  | x + 1 => if x &&& m = x then (ap w m x != w.testBit x) else ap w m x
end Go.Proofs.YteljkpglgjjnlaaMath
