/-
  Part 15 of a proof: HFn49.
-/
import Derived.Test.YtdokmmhjmclmnaaGreatMB04
import Derived.Test.YtdokmmhjmclmnaaGreatMB11
set_option linter.unusedSimpArgs false
set_option linter.unusedVariables false
set_option linter.unusedSectionVars false
set_option linter.unnecessarySimpa false
namespace Go.Proofs.YtdokmmhjmclmnaaGreat
open Go.RowKit Go.Maps
end Go.Proofs.YtdokmmhjmclmnaaGreat
