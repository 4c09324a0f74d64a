/-
  Part 27 of a proof: RH10 RH11 LH8.
-/
import Derived.Test.YtdokmmhjmclmnaaGreatMN23
import Derived.Test.YtdokmmhjmclmnaaGreatMN25
import Derived.Test.YtdokmmhjmclmnaaGreatMN26
set_option linter.unusedSimpArgs false
set_option linter.unusedVariables false
set_option linter.unusedSectionVars false
set_option linter.unnecessarySimpa false
namespace Go.Proofs.YtdokmmhjmclmnaaGreat
open Go.RowKit Go.Maps
theorem Hp.Wf.cnt_le {S:Hp.Hs} {B:Nat} {L:List Hp.Tl} {ch:Nat → List Nat} (h:Hp.Wf S B L ch) (a k:Nat):Hp.cnt (Hp.ow S.words) S.sizes a (S.taken.take k) ≤ 100000:=by
 have h1:=Hp.cnt_le (f:=Hp.ow S.words) (z:=S.sizes) a (S.taken.take k)
 have h2:=Hp.widths_app (Hp.ow S.words) S.sizes (S.taken.take k) (S.taken.drop k)
 rw [List.take_append_drop] at h2
 have h3:=h.widths_
 have h4:=h.hi
 omega
end Go.Proofs.YtdokmmhjmclmnaaGreat
