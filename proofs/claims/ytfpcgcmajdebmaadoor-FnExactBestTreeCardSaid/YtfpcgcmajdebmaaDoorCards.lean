/-
  DERIVED. GIVEN WITH THE SEED: THE CARDS: each row of YtfpcgcmajdebmaaDoorRows.lean that lists a variable, with what it lists TIED to the program's text (the seventh form; the later family's looks); each row that meets fmt, with fmt's text TOLD by the authors' own Lean function (tested against real Go, not proved from fmt's source: count such statements apart). THE CARD IS WHAT COUNTS. Prove the row's statement (the work); the ties are given (YtfpcgcmajdebmaaDoorTie.lean); close each card by the builder's one call (the guide's Derived/Test/ToyasCard.lean, 'card_holds'). Laid BY PROGRAM, IN A SANDBOX (cutbox-door.mjs). By AI agents, Wed Nov 11 2026. No macro, syntax, notation, axiom, sorry.
-/
import Derived.Test.YtfpcgcmajdebmaaDoorRows
import GoSem.ClaimSeven
namespace Go.Proofs.YtfpcgcmajdebmaaDoor
namespace Rows

/-- THE TIED CARD OF 'laws.FnExactBestTree'. -/
def fnExactBestTreeCard : Claim7 := { stood := { row := fnExactBestTreeRow, standIns := [], harness := (true, "db24664764060a1eb56fec37a56725d27cbbcfd9e038697693a6a48aad2783b3"), looks := false }, kinds := [], alts := [], laidByText := true, laidKinds := [.data, .data, .data], laidTests := true, laidLooks := .later }
def FnExactBestTreeCardSaid : Prop := Claim7.holds Tryd.pinned (.plain (OpenSpec.ofChange fnExactBestTreeSpec)) fnExactBestTreeCard

/-- THE SECOND FORM's CARD OF 'laws.FnExactBestTree'. -/
def fnExactBestTreeUptoCard : Claim7 := { stood := { row := fnExactBestTreeUptoRow, standIns := [], harness := (true, "db24664764060a1eb56fec37a56725d27cbbcfd9e038697693a6a48aad2783b3"), looks := false }, kinds := [], alts := [], laidByText := true, laidKinds := [.data, .data, .data], laidTests := true, laidLooks := .later }
def FnExactBestTreeUptoCardSaid : Prop := Claim7.holds Tryd.pinned (.plain (OpenSpec.upto fnExactBestTreeSpec)) fnExactBestTreeUptoCard
end Rows
end Go.Proofs.YtfpcgcmajdebmaaDoor
