/-
  No cell of these rows narrows 'for every input' (looked for: loops, veiled, ifaces, maps, wideKeys, modest, calm, conditions, laid).
  DERIVED. THE GIVEN ROWS OF THIS SEAT. 6 by the template 'for every input the law returns true; each argument reads behind the call as it read before'; 0 by the template 'total and deterministic' (their statements: YtoacgiccpndbmabTotals.lean).
  GIVEN WITH THE SEED: the statements are not yours to turn. If you find one false, say at which input.
  Laid BY PROGRAM, IN A SANDBOX (cutbox-rows.mjs): the forced cells as the released guide's own fill.sh prints them over the translation 840fe6b973e00404… (all of the seat's roots in one cut). By AI agents, Wed Nov 11 2026. No macro, syntax, notation, axiom, sorry.
-/
import Derived.Test.YtoacgiccpndbmabChecked
import GoSem.Claim
import GoSem.ClaimJoined
import GoSem.ClaimMapViews
import Derived.JoinedTies
import Derived.KernelRfl
namespace Go.Proofs.Ytoacgiccpndbmab
/- THE CELL 'sum', in the pinned program and in every row, IS THE sha256 OF THE DUMP (.gsa) THAT YtoacgiccpndbmabProg.lean LOADS. Nothing in Lean hashes anything: it is a label: what it is worth is what the hold of that sum in a sandbox is worth. -/
noncomputable def Try.pinned : Pinned := { name := "ytoacgiccpndbmab", sum := "840fe6b973e004046b01b39c541b10295c0924014a1a3b5c5763b8e17357a2cf", checked := Try.checked }
namespace Rows
def none {H : Type} : Left H := { results := [], args := [] }

/-- 'laws.FnExactNonlinearity': WHATEVER THE INPUT: true; the input reads as it did. -/
def fnExactNonlinearitySpec : ChangeSpec := { name := "fnExactNonlinearity", fn := fun _ => fun
  | [d] => { results := [.lit (.bool true)], args := [d] }
  | _ => none }
def fnExactNonlinearityRow : OpenClaim := { program := "ytoacgiccpndbmab", sum := "840fe6b973e004046b01b39c541b10295c0924014a1a3b5c5763b8e17357a2cf", func := "loop.example/g03403/laws.FnExactNonlinearity", spec := "fnExactNonlinearity", apart := false }
def FnExactNonlinearitySaid : Prop := fnExactNonlinearityRow.holds Try.pinned (OpenSpec.ofChange fnExactNonlinearitySpec)

/-- ITS FALSE NEIGHBOUR: 'it returns false'. Refute it at one input. -/
def fnExactNonlinearityWrong : ChangeSpec := { name := "fnExactNonlinearity", fn := fun _ => fun
  | [d] => { results := [.lit (.bool false)], args := [d] }
  | _ => none }
def FnExactNonlinearityWrongFalsely : Prop := fnExactNonlinearityRow.holds Try.pinned (OpenSpec.ofChange fnExactNonlinearityWrong)

/-- 'laws.FnExactPairsAtDistance': WHATEVER THE INPUT: true; the input reads as it did. -/
def fnExactPairsAtDistanceSpec : ChangeSpec := { name := "fnExactPairsAtDistance", fn := fun _ => fun
  | [d] => { results := [.lit (.bool true)], args := [d] }
  | _ => none }
def fnExactPairsAtDistanceRow : OpenClaim := { program := "ytoacgiccpndbmab", sum := "840fe6b973e004046b01b39c541b10295c0924014a1a3b5c5763b8e17357a2cf", func := "loop.example/g03403/laws.FnExactPairsAtDistance", spec := "fnExactPairsAtDistance", apart := false }
def FnExactPairsAtDistanceSaid : Prop := fnExactPairsAtDistanceRow.holds Try.pinned (OpenSpec.ofChange fnExactPairsAtDistanceSpec)

/-- ITS FALSE NEIGHBOUR: 'it returns false'. Refute it at one input. -/
def fnExactPairsAtDistanceWrong : ChangeSpec := { name := "fnExactPairsAtDistance", fn := fun _ => fun
  | [d] => { results := [.lit (.bool false)], args := [d] }
  | _ => none }
def FnExactPairsAtDistanceWrongFalsely : Prop := fnExactPairsAtDistanceRow.holds Try.pinned (OpenSpec.ofChange fnExactPairsAtDistanceWrong)

/-- 'laws.FnExactSpectrumOf': WHATEVER THE INPUT: true; the input reads as it did. -/
def fnExactSpectrumOfSpec : ChangeSpec := { name := "fnExactSpectrumOf", fn := fun _ => fun
  | [d] => { results := [.lit (.bool true)], args := [d] }
  | _ => none }
def fnExactSpectrumOfRow : OpenClaim := { program := "ytoacgiccpndbmab", sum := "840fe6b973e004046b01b39c541b10295c0924014a1a3b5c5763b8e17357a2cf", func := "loop.example/g03403/laws.FnExactSpectrumOf", spec := "fnExactSpectrumOf", apart := false }
def FnExactSpectrumOfSaid : Prop := fnExactSpectrumOfRow.holds Try.pinned (OpenSpec.ofChange fnExactSpectrumOfSpec)

/-- ITS FALSE NEIGHBOUR: 'it returns false'. Refute it at one input. -/
def fnExactSpectrumOfWrong : ChangeSpec := { name := "fnExactSpectrumOf", fn := fun _ => fun
  | [d] => { results := [.lit (.bool false)], args := [d] }
  | _ => none }
def FnExactSpectrumOfWrongFalsely : Prop := fnExactSpectrumOfRow.holds Try.pinned (OpenSpec.ofChange fnExactSpectrumOfWrong)

/-- 'laws.FnExactRealCoefficients': WHATEVER THE INPUT: true; the input reads as it did. -/
def fnExactRealCoefficientsSpec : ChangeSpec := { name := "fnExactRealCoefficients", fn := fun _ => fun
  | [d] => { results := [.lit (.bool true)], args := [d] }
  | _ => none }
def fnExactRealCoefficientsRow : OpenClaim := { program := "ytoacgiccpndbmab", sum := "840fe6b973e004046b01b39c541b10295c0924014a1a3b5c5763b8e17357a2cf", func := "loop.example/g03403/laws.FnExactRealCoefficients", spec := "fnExactRealCoefficients", apart := false }
def FnExactRealCoefficientsSaid : Prop := fnExactRealCoefficientsRow.holds Try.pinned (OpenSpec.ofChange fnExactRealCoefficientsSpec)

/-- ITS FALSE NEIGHBOUR: 'it returns false'. Refute it at one input. -/
def fnExactRealCoefficientsWrong : ChangeSpec := { name := "fnExactRealCoefficients", fn := fun _ => fun
  | [d] => { results := [.lit (.bool false)], args := [d] }
  | _ => none }
def FnExactRealCoefficientsWrongFalsely : Prop := fnExactRealCoefficientsRow.holds Try.pinned (OpenSpec.ofChange fnExactRealCoefficientsWrong)

/-- 'laws.FnExactEnergyByLevel': WHATEVER THE INPUT: true; the input reads as it did. -/
def fnExactEnergyByLevelSpec : ChangeSpec := { name := "fnExactEnergyByLevel", fn := fun _ => fun
  | [d] => { results := [.lit (.bool true)], args := [d] }
  | _ => none }
def fnExactEnergyByLevelRow : OpenClaim := { program := "ytoacgiccpndbmab", sum := "840fe6b973e004046b01b39c541b10295c0924014a1a3b5c5763b8e17357a2cf", func := "loop.example/g03403/laws.FnExactEnergyByLevel", spec := "fnExactEnergyByLevel", apart := false }
def FnExactEnergyByLevelSaid : Prop := fnExactEnergyByLevelRow.holds Try.pinned (OpenSpec.ofChange fnExactEnergyByLevelSpec)

/-- ITS FALSE NEIGHBOUR: 'it returns false'. Refute it at one input. -/
def fnExactEnergyByLevelWrong : ChangeSpec := { name := "fnExactEnergyByLevel", fn := fun _ => fun
  | [d] => { results := [.lit (.bool false)], args := [d] }
  | _ => none }
def FnExactEnergyByLevelWrongFalsely : Prop := fnExactEnergyByLevelRow.holds Try.pinned (OpenSpec.ofChange fnExactEnergyByLevelWrong)

/-- 'laws.FnExactTableOfSpectrum': WHATEVER THE INPUT: true; the input reads as it did. -/
def fnExactTableOfSpectrumSpec : ChangeSpec := { name := "fnExactTableOfSpectrum", fn := fun _ => fun
  | [d] => { results := [.lit (.bool true)], args := [d] }
  | _ => none }
def fnExactTableOfSpectrumRow : OpenClaim := { program := "ytoacgiccpndbmab", sum := "840fe6b973e004046b01b39c541b10295c0924014a1a3b5c5763b8e17357a2cf", func := "loop.example/g03403/laws.FnExactTableOfSpectrum", spec := "fnExactTableOfSpectrum", apart := false }
def FnExactTableOfSpectrumSaid : Prop := fnExactTableOfSpectrumRow.holds Try.pinned (OpenSpec.ofChange fnExactTableOfSpectrumSpec)

/-- ITS FALSE NEIGHBOUR: 'it returns false'. Refute it at one input. -/
def fnExactTableOfSpectrumWrong : ChangeSpec := { name := "fnExactTableOfSpectrum", fn := fun _ => fun
  | [d] => { results := [.lit (.bool false)], args := [d] }
  | _ => none }
def FnExactTableOfSpectrumWrongFalsely : Prop := fnExactTableOfSpectrumRow.holds Try.pinned (OpenSpec.ofChange fnExactTableOfSpectrumWrong)

/- THE SECOND FORM. 'bulk': how many values and letters a reading holds, each counted each time it is reached (what is shared counts as often as it is met; a slice's spare places count too). A statement '..UptoSaid' is the law's where the arguments, and the package variables that the reading takes, are together of bulk at most 1048576: NARROWER than '..Said'. Prove '..Said' where nothing that the law and all that it calls make is longer than what came in: it says more and counts as full. Else prove '..UptoSaid'. A law counts once. -/
mutual
def uptoBulk {H : Type} : DataW H → Nat
  | .lit (.string bytes) => bytes.length + 1
  | .lit _ => 1
  | .nil => 1
  | .ptr d => uptoBulk d + 1
  | .slice elems spare => uptoBulkAll elems + uptoBulkAll spare + 1
  | .agg parts => uptoBulkAll parts + 1
  | .iface _ d => uptoBulk d + 1
  | .map entries => uptoBulkEntries entries + 1
  | .held _ => 1
def uptoBulkAll {H : Type} : List (DataW H) → Nat
  | [] => 0
  | d :: r => uptoBulk d + uptoBulkAll r
def uptoBulkEntries {H : Type} : List (Lit × DataW H) → Nat
  | [] => 0
  | x :: r => uptoBulkEntry x + uptoBulkEntries r
def uptoBulkEntry {H : Type} : Lit × DataW H → Nat
  | (.string bytes, d) => bytes.length + uptoBulk d + 1
  | (_, d) => uptoBulk d + 1
 end
def uptoSmall : (H : Type) → List (DataW H) → Bool := fun _ ds => decide (uptoBulkAll ds ≤ 1048576)
def OpenSpec.upto (s : _root_.Go.ChangeSpec) : _root_.Go.OpenSpec := { _root_.Go.OpenSpec.ofChange s with cond := some uptoSmall }

/-- 'laws.FnExactNonlinearity', WHERE WHAT IT READS IS OF BULK AT MOST 1048576: true; the input reads as it did. -/
def fnExactNonlinearityUptoRow : OpenClaim := { program := "ytoacgiccpndbmab", sum := "840fe6b973e004046b01b39c541b10295c0924014a1a3b5c5763b8e17357a2cf", func := "loop.example/g03403/laws.FnExactNonlinearity", spec := "fnExactNonlinearity", apart := false, narrowed := true }
def FnExactNonlinearityUptoSaid : Prop := fnExactNonlinearityUptoRow.holds Try.pinned (OpenSpec.upto fnExactNonlinearitySpec)

/-- 'laws.FnExactPairsAtDistance', WHERE WHAT IT READS IS OF BULK AT MOST 1048576: true; the input reads as it did. -/
def fnExactPairsAtDistanceUptoRow : OpenClaim := { program := "ytoacgiccpndbmab", sum := "840fe6b973e004046b01b39c541b10295c0924014a1a3b5c5763b8e17357a2cf", func := "loop.example/g03403/laws.FnExactPairsAtDistance", spec := "fnExactPairsAtDistance", apart := false, narrowed := true }
def FnExactPairsAtDistanceUptoSaid : Prop := fnExactPairsAtDistanceUptoRow.holds Try.pinned (OpenSpec.upto fnExactPairsAtDistanceSpec)

/-- 'laws.FnExactSpectrumOf', WHERE WHAT IT READS IS OF BULK AT MOST 1048576: true; the input reads as it did. -/
def fnExactSpectrumOfUptoRow : OpenClaim := { program := "ytoacgiccpndbmab", sum := "840fe6b973e004046b01b39c541b10295c0924014a1a3b5c5763b8e17357a2cf", func := "loop.example/g03403/laws.FnExactSpectrumOf", spec := "fnExactSpectrumOf", apart := false, narrowed := true }
def FnExactSpectrumOfUptoSaid : Prop := fnExactSpectrumOfUptoRow.holds Try.pinned (OpenSpec.upto fnExactSpectrumOfSpec)

/-- 'laws.FnExactRealCoefficients', WHERE WHAT IT READS IS OF BULK AT MOST 1048576: true; the input reads as it did. -/
def fnExactRealCoefficientsUptoRow : OpenClaim := { program := "ytoacgiccpndbmab", sum := "840fe6b973e004046b01b39c541b10295c0924014a1a3b5c5763b8e17357a2cf", func := "loop.example/g03403/laws.FnExactRealCoefficients", spec := "fnExactRealCoefficients", apart := false, narrowed := true }
def FnExactRealCoefficientsUptoSaid : Prop := fnExactRealCoefficientsUptoRow.holds Try.pinned (OpenSpec.upto fnExactRealCoefficientsSpec)

/-- 'laws.FnExactEnergyByLevel', WHERE WHAT IT READS IS OF BULK AT MOST 1048576: true; the input reads as it did. -/
def fnExactEnergyByLevelUptoRow : OpenClaim := { program := "ytoacgiccpndbmab", sum := "840fe6b973e004046b01b39c541b10295c0924014a1a3b5c5763b8e17357a2cf", func := "loop.example/g03403/laws.FnExactEnergyByLevel", spec := "fnExactEnergyByLevel", apart := false, narrowed := true }
def FnExactEnergyByLevelUptoSaid : Prop := fnExactEnergyByLevelUptoRow.holds Try.pinned (OpenSpec.upto fnExactEnergyByLevelSpec)

/-- 'laws.FnExactTableOfSpectrum', WHERE WHAT IT READS IS OF BULK AT MOST 1048576: true; the input reads as it did. -/
def fnExactTableOfSpectrumUptoRow : OpenClaim := { program := "ytoacgiccpndbmab", sum := "840fe6b973e004046b01b39c541b10295c0924014a1a3b5c5763b8e17357a2cf", func := "loop.example/g03403/laws.FnExactTableOfSpectrum", spec := "fnExactTableOfSpectrum", apart := false, narrowed := true }
def FnExactTableOfSpectrumUptoSaid : Prop := fnExactTableOfSpectrumUptoRow.holds Try.pinned (OpenSpec.upto fnExactTableOfSpectrumSpec)

end Rows
end Go.Proofs.Ytoacgiccpndbmab
