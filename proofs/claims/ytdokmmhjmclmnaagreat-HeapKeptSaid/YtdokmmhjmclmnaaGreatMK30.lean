/-
  Part 30 of a proof: LH12.
-/
import Derived.Test.YtdokmmhjmclmnaaGreatMK25
import Derived.Test.YtdokmmhjmclmnaaGreatMK27
set_option linter.unusedSimpArgs false
set_option linter.unusedVariables false
set_option linter.unusedSectionVars false
set_option linter.unnecessarySimpa false
namespace Go.Proofs.YtdokmmhjmclmnaaGreat
variable {W' w w' w0:World} {B a b base c ca cap f g i j k k1 k2 m n oc sb sc:Nat} {choice e t x:Int} {W fs l o z:List Int} {A T:List Nat} {op p p1 p2 pa pe pn q sp:Option Addr} {d:Hd} {S S':Hp.Hs} {r:Rd} {L:List Hp.Tl} {M:List (Nat × Int)} {s s':Hp.Sc} {acts:List Hp.Act'}
open Go.RowKit Go.Maps
theorem lWords' {na:Nat} {ch:Nat->List Nat} (hz:S.sizes=z) (ho':S.order=o) (hn:S.words.length=n) (hs:SliceAt w sp sc z) (ho:SliceAt w op oc o) (h:HAt w d S) (hw:Hp.Wf S B L ch) :
    Calls Tryz.prog 52 #[.agg #[.slice sp z.length sc,.slice op o.length oc,.int .i64 n,.slice pa na ca],.pointer (some ⟨d.hb,0,none⟩)] w fun e w'=>∃ g c,e = .returned (.tuple #[.slice (some ⟨g,0,none⟩) n c,.bool true])/\Row w' w.heap.size (some ⟨g,0,none⟩) c S.words/\Ext w w':=by
  subst hz ho' hn;exact lWords hs ho h hw
end Go.Proofs.YtdokmmhjmclmnaaGreat
