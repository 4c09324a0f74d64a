/-
  Part 32 of a proof: LH15.
-/
import Derived.Test.YtdokmmhjmclmnaaGreatMS23
import Derived.Test.YtdokmmhjmclmnaaGreatMS28
import Derived.Test.YtdokmmhjmclmnaaGreatMS30
import Derived.Test.YtdokmmhjmclmnaaGreatMS31
set_option linter.unusedSimpArgs false
set_option linter.unusedVariables false
set_option linter.unusedSectionVars false
set_option linter.unnecessarySimpa false
namespace Go.Proofs.YtdokmmhjmclmnaaGreat
variable {W' w w' w0:World} {B a b base c ca cap f g i j k k1 k2 lb n oc qc sb sc:Nat} {choice e t x:Int} {A V W fs l o z:List Int} {D T Y:List Nat} {op p p1 p2 pa q sp:Option Addr} {d:Hd} {S S':Hp.Hs} {r:Rd} {L:List Hp.Tl} {M:List (Nat × Int)} {s s' s1:Hp.Sc} {acts:List Hp.Act'} {c0 c1:Value}
open Go.RowKit Go.Maps
def PlayIn2 (s':Hp.Sc) (v:Value) (W:World):Prop:=∃ p c g cap,v = .tuple #[.slice p s'.res.length c,.slice (some ⟨g,0,none⟩) s'.S.words.length cap,.int .i64 0]/\SliceAt W p c s'.res/\SliceAt W (some ⟨g,0,none⟩) cap s'.S.words
theorem PlayIn2.ext {W:World} {v:Value} (h:PlayIn2 s' v W) (e:Ext W W'):PlayIn2 s' v W':=by
 obtain ⟨p,c,g,cap,rfl,h1,h2⟩:=h
 exact ⟨p,c,g,cap,rfl,h1.ext e,h2.ext e⟩
def PlayErr (fe:Int) (v:Value) (_:World):Prop:=v = .tuple #[.slice none 0 0,.slice none 0 0,.int .i64 fe]
theorem PlayErr.ext {W:World} {fe:Int} {v:Value} (h:PlayErr fe v W) (_:Ext W W'):PlayErr fe v W':=h
end Go.Proofs.YtdokmmhjmclmnaaGreat
