/-
  Part 25 of a proof: RH9.
-/
import Derived.Test.YtdokmmhjmclmnaaGreatMN18
import Derived.Test.YtdokmmhjmclmnaaGreatMN24
set_option linter.unusedSimpArgs false
set_option linter.unusedVariables false
set_option linter.unusedSectionVars false
set_option linter.unnecessarySimpa false
namespace Go.Proofs.YtdokmmhjmclmnaaGreat
open Go.RowKit Go.Maps
end Go.Proofs.YtdokmmhjmclmnaaGreat
