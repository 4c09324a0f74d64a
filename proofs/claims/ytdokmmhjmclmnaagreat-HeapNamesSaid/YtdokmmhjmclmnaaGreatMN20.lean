/-
  Part 20 of a proof: HFn53.
-/
import Derived.Test.YtdokmmhjmclmnaaGreatMN02
import Derived.Test.YtdokmmhjmclmnaaGreatMN19
set_option linter.unusedSimpArgs false
set_option linter.unusedVariables false
set_option linter.unusedSectionVars false
set_option linter.unnecessarySimpa false
namespace Go.Proofs.YtdokmmhjmclmnaaGreat
open Go.RowKit Go.Maps Go.Sort Go.Shelf
theorem list13 {l:List Int} (h:l.length=13):∃ a0 a1 a2 a3 a4 a5 a6 a7 a8 a9 a10 a11 a12,l=[a0,a1,a2,a3,a4,a5,a6,a7,a8,a9,a10,a11,a12]:=by
 match l,h with
 | [a0,a1,a2,a3,a4,a5,a6,a7,a8,a9,a10,a11,a12],_=>exact ⟨_,_,_,_,_,_,_,_,_,_,_,_,_,rfl⟩
end Go.Proofs.YtdokmmhjmclmnaaGreat
