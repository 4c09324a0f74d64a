/-
  Part 20 of a proof: HFn53.
-/
import Derived.Test.YtdokmmhjmclmnaaGreatMP02
import Derived.Test.YtdokmmhjmclmnaaGreatMP19
set_option linter.unusedSimpArgs false
set_option linter.unusedVariables false
set_option linter.unusedSectionVars false
set_option linter.unnecessarySimpa false
namespace Go.Proofs.YtdokmmhjmclmnaaGreat
open Go.RowKit Go.Maps Go.Sort Go.Shelf
end Go.Proofs.YtdokmmhjmclmnaaGreat
