/- Cubes of inputs, certificates and how they meet. Conditions: numbers below 32. -/
import Derived.Test.YteljkpglgjjnlaaPop
namespace Go.Proofs.YteljkpglgjjnlaaMath
open Go.RowKit Go.Proofs.YteljkpglgjjnlaaW.PrintWords Go.Proofs.YteljkpglgjjnlaaW.PrintLast Go.Proofs.YteljkpglgjjnlaaW.PrintMore
set_option linter.unusedVariables false
set_option linter.unusedSimpArgs false

/-- Does a value occur in a cube among the first inputs? -/
def seenB (w m v : Nat) (b : Bool) : Nat → Bool
  | 0 => false
  | x + 1 => seenB w m v b x || ((x &&& m == v) && (w.testBit x == b))
def cubeV (n w m v : Nat) : Int := if seenB w m v true (2 ^ n) = true then (if seenB w m v false (2 ^ n) = true then 2 else 1) else 0
def certOk (n w m x : Nat) : Bool := decide (cubeV n w m (x &&& m) < 2)
/-- The best certificate among the first sets. -/
def certB (n w x : Nat) : Nat → Nat
  | 0 => 2 ^ n - 1
  | m + 1 => if pc m < pc (certB n w x m) then (if certOk n w m x = true then m else certB n w x m) else certB n w x m
def cert (n w x : Nat) : Nat := certB n w x (2 ^ n)
/-- Do the certificates of two inputs with unlike values meet where the inputs differ? -/
def meets (n w x y : Nat) : Bool := (w.testBit x == w.testBit y) || ((cert n w x &&& cert n w y) &&& (x ^^^ y) != 0)
def meetAll (n w N x : Nat) : Bool := (List.range N).all fun y => meets n w x y
def meetF (n w N : Nat) (x : Nat) : Bool := (List.range x).all fun x => meetAll n w N x
def meetH (n w : Nat) (x : Nat) : Bool := (List.range x).all fun x => meetAll n w x x
end Go.Proofs.YteljkpglgjjnlaaMath
