/-
  Part 14 of a proof: HFn49.
-/
import Derived.Test.YtdokmmhjmclmnaaGreatMN04
import Derived.Test.YtdokmmhjmclmnaaGreatMN13
set_option linter.unusedSimpArgs false
set_option linter.unusedVariables false
set_option linter.unusedSectionVars false
set_option linter.unnecessarySimpa false
namespace Go.Proofs.YtdokmmhjmclmnaaGreat
open Go.RowKit Go.Maps
end Go.Proofs.YtdokmmhjmclmnaaGreat
