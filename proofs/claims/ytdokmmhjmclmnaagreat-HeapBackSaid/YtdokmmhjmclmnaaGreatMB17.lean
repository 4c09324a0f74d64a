/-
  Part 17 of a proof: HFn50.
-/
import Derived.Test.YtdokmmhjmclmnaaGreatMB06
import Derived.Test.YtdokmmhjmclmnaaGreatMB16
set_option linter.unusedSimpArgs false
set_option linter.unusedVariables false
set_option linter.unusedSectionVars false
set_option linter.unnecessarySimpa false
namespace Go.Proofs.YtdokmmhjmclmnaaGreat
open Go.RowKit Go.Maps
end Go.Proofs.YtdokmmhjmclmnaaGreat
