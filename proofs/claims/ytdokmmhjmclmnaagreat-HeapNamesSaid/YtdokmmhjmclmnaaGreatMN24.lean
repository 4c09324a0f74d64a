/-
  Part 24 of a proof: RH8.
-/
import Derived.Test.YtdokmmhjmclmnaaGreatMN18
import Derived.Test.YtdokmmhjmclmnaaGreatMN23
set_option linter.unusedSimpArgs false
set_option linter.unusedVariables false
set_option linter.unusedSectionVars false
set_option linter.unnecessarySimpa false
namespace Go.Proofs.YtdokmmhjmclmnaaGreat
open Go.RowKit Go.Maps
end Go.Proofs.YtdokmmhjmclmnaaGreat
