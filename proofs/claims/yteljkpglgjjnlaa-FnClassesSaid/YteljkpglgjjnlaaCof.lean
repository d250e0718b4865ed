/- Coefficients of sets, pairs at a distance, energies by level: what the loops come to. Conditions: at most five variables. -/
import Derived.Test.YteljkpglgjjnlaaPop
namespace Go.Proofs.YteljkpglgjjnlaaMath
open Go.RowKit Go.Proofs.YteljkpglgjjnlaaW.PrintWords Go.Proofs.YteljkpglgjjnlaaW.PrintLast Go.Proofs.YteljkpglgjjnlaaW.PrintMore
set_option linter.unusedVariables false
set_option linter.unusedSimpArgs false

end Go.Proofs.YteljkpglgjjnlaaMath
