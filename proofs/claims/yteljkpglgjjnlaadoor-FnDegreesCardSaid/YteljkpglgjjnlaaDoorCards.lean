/-
  DERIVED. GIVEN WITH THE SEED: THE CARDS: each row of YteljkpglgjjnlaaDoorRows.lean that lists a variable, with what it lists TIED to the program's text (the seventh form; the later family's looks); each row that meets fmt, with fmt's text TOLD by the authors' own Lean function (tested against real Go, not proved from fmt's source: count such statements apart). THE CARD IS WHAT COUNTS. Prove the row's statement (the work); the ties are given (YteljkpglgjjnlaaDoorTie.lean); close each card by the builder's one call (the guide's Derived/Test/ToyasCard.lean, 'card_holds'). Laid BY PROGRAM, IN A SANDBOX (cutbox-door.mjs). By AI agents, Wed Nov 11 2026. No macro, syntax, notation, axiom, sorry.
-/
import Derived.Test.YteljkpglgjjnlaaDoorRows
import GoSem.ClaimSeven
namespace Go.Proofs.YteljkpglgjjnlaaDoor
namespace Rows

/-- THE TIED CARD OF 'laws.FnExactParseAnf'. -/
def fnExactParseAnfCard : Claim7 := { stood := { row := fnExactParseAnfRow, standIns := [], harness := (true, "00d23eacd0ab2f55cc81ad37d54ea027462f831acde2f10437c270b11e6322ec"), looks := false }, kinds := [], alts := [], laidByText := true, laidKinds := [.data, .pinned], laidTests := true, laidLooks := .later }
def FnExactParseAnfCardSaid : Prop := Claim7.holds Tryd.pinned (.plain (OpenSpec.ofChange fnExactParseAnfSpec)) fnExactParseAnfCard

/-- THE TIED CARD OF 'laws.FnDegrees'. -/
def fnDegreesCard : Claim7 := { stood := { row := fnDegreesRow, standIns := [], harness := (true, "00d23eacd0ab2f55cc81ad37d54ea027462f831acde2f10437c270b11e6322ec"), looks := false }, kinds := [], alts := [], laidByText := true, laidKinds := [.data, .pinned], laidTests := true, laidLooks := .later }
def FnDegreesCardSaid : Prop := Claim7.holds Tryd.pinned (.plain (OpenSpec.ofChange fnDegreesSpec)) fnDegreesCard

/-- THE SECOND FORM's CARD OF 'laws.FnExactParseAnf'. -/
def fnExactParseAnfUptoCard : Claim7 := { stood := { row := fnExactParseAnfUptoRow, standIns := [], harness := (true, "00d23eacd0ab2f55cc81ad37d54ea027462f831acde2f10437c270b11e6322ec"), looks := false }, kinds := [], alts := [], laidByText := true, laidKinds := [.data, .pinned], laidTests := true, laidLooks := .later }
def FnExactParseAnfUptoCardSaid : Prop := Claim7.holds Tryd.pinned (.plain (OpenSpec.upto fnExactParseAnfSpec)) fnExactParseAnfUptoCard

/-- THE SECOND FORM's CARD OF 'laws.FnDegrees'. -/
def fnDegreesUptoCard : Claim7 := { stood := { row := fnDegreesUptoRow, standIns := [], harness := (true, "00d23eacd0ab2f55cc81ad37d54ea027462f831acde2f10437c270b11e6322ec"), looks := false }, kinds := [], alts := [], laidByText := true, laidKinds := [.data, .pinned], laidTests := true, laidLooks := .later }
def FnDegreesUptoCardSaid : Prop := Claim7.holds Tryd.pinned (.plain (OpenSpec.upto fnDegreesSpec)) fnDegreesUptoCard
end Rows
end Go.Proofs.YteljkpglgjjnlaaDoor
