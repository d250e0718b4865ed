/- The test of sums of inputs. Conditions: at most five variables. -/
import Derived.Test.YtlaphjgijkdgdaaPop
namespace Go.Proofs.YtlaphjgijkdgdaaMath
open Go.RowKit Go.Proofs.YtlaphjgijkdgdaaW.PrintWords Go.Proofs.YtlaphjgijkdgdaaW.PrintLast Go.Proofs.YtlaphjgijkdgdaaW.PrintMore
set_option linter.unusedVariables false
set_option linter.unusedSimpArgs false

/-! ### The test of sums -/
theorem at4 {w x y z : Nat} (h : w < 9223372036854775808) : Go.bits .and .i64 (Go.bits .xor .i64 (Go.bits .xor .i64 (shr .i64 (w : Int) (x : Int)) (shr .i64 (w : Int) (y : Int))) (shr .i64 (w : Int) (z : Int))) 1 = b2i ((w.testBit x != w.testBit y) != w.testBit z) := by
  rw [shrN (by omega), shrN (by omega), shrN (by omega)]
  have h1 : w / 2 ^ x ≤ w := Nat.div_le_self _ _
  have h2 : w / 2 ^ y ≤ w := Nat.div_le_self _ _
  have h3 : w / 2 ^ z ≤ w := Nat.div_le_self _ _
  have h4 : w / 2 ^ x ^^^ w / 2 ^ y < 2 ^ 63 := Nat.xor_lt_two_pow (by omega) (by omega)
  rw [bxorN (by omega) (by omega)]
  have h5 : (w / 2 ^ x ^^^ w / 2 ^ y) ^^^ w / 2 ^ z < 2 ^ 63 := Nat.xor_lt_two_pow h4 (by omega)
  rw [bxorN (by omega) (by omega), show (1 : Int) = ((1 : Nat) : Int) from rfl, bandN (by omega) (by omega), Nat.and_one_is_mod, xor_mod2, xor_mod2, toNat_b2i]
  simp only [mod2_testBit]
  cases w.testBit x <;> cases w.testBit y <;> cases w.testBit z <;> rfl
def rej (w x y : Nat) : Int := b2i ((w.testBit x != w.testBit y) != w.testBit (x ^^^ y))
def rej2 (N w x y : Nat) : Int := sumI x (fun x' => sumI N (rej w x')) + sumI y (rej w x)
theorem rej2_range {N w x y : Nat} (hN : N ≤ 32) (hx : x ≤ 32) (hy : y ≤ 32) : 0 ≤ rej2 N w x y ∧ rej2 N w x y ≤ 2000 := by
  have h1 := sumI_bound (n := x) (f := fun x' => sumI N (rej w x')) (a := 0) (b := 32) fun i hi => by
    have := sumI_range (n := N) (f := rej w i) fun _ _ => b2i_range _
    omega
  have h2 := sumI_range (n := y) (f := rej w x) fun _ _ => b2i_range _
  unfold rej2
  omega
theorem rej2_row (N w x : Nat) : rej2 N w x N = rej2 N w (x + 1) 0 := by
  unfold rej2
  simp only [sumI]
  omega
end Go.Proofs.YtlaphjgijkdgdaaMath
