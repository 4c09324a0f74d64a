/-
  Part 15 of a proof: HLoadN.
-/
import Derived.Test.YtdokmmhjmclmnaaGreatMN14
set_option linter.unusedSimpArgs false
set_option linter.unusedVariables false
set_option linter.unusedSectionVars false
set_option linter.unnecessarySimpa false
namespace Go.Proofs.YtdokmmhjmclmnaaGreat
open Go.RowKit
end Go.Proofs.YtdokmmhjmclmnaaGreat
