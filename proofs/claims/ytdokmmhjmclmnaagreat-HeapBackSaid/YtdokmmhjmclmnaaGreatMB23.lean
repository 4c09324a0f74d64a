/-
  Part 23 of a proof: RH9.
-/
import Derived.Test.YtdokmmhjmclmnaaGreatMB20
import Derived.Test.YtdokmmhjmclmnaaGreatMB22
set_option linter.unusedSimpArgs false
set_option linter.unusedVariables false
set_option linter.unusedSectionVars false
set_option linter.unnecessarySimpa false
namespace Go.Proofs.YtdokmmhjmclmnaaGreat
open Go.RowKit Go.Maps
end Go.Proofs.YtdokmmhjmclmnaaGreat
