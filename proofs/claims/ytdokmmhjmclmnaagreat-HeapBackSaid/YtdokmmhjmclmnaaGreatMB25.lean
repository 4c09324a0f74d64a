/-
  Part 25 of a proof: RH10 RH11 LH8.
-/
import Derived.Test.YtdokmmhjmclmnaaGreatMB21
import Derived.Test.YtdokmmhjmclmnaaGreatMB23
import Derived.Test.YtdokmmhjmclmnaaGreatMB24
set_option linter.unusedSimpArgs false
set_option linter.unusedVariables false
set_option linter.unusedSectionVars false
set_option linter.unnecessarySimpa false
namespace Go.Proofs.YtdokmmhjmclmnaaGreat
open Go.RowKit Go.Maps
theorem Hp.Wf.cnt_le {S:Hp.Hs} {B:Nat} {L:List Hp.Tl} {ch:Nat → List Nat} (h:Hp.Wf S B L ch) (a k:Nat):Hp.cnt (Hp.ow S.words) S.sizes a (S.taken.take k) ≤ 100000:=by
 have h1:=Hp.cnt_le (f:=Hp.ow S.words) (z:=S.sizes) a (S.taken.take k)
 have h2:=Hp.widths_app (Hp.ow S.words) S.sizes (S.taken.take k) (S.taken.drop k)
 rw [List.take_append_drop] at h2
 have h3:=h.widths_
 have h4:=h.hi
 omega
theorem lWordsOf {w:World} {d:Hd} {S:Hp.Hs} (h:HAt w d S) (h0:0 < S.words.length) :
    Calls Tryz.prog 39 #[.pointer (some ⟨d.hb,0,none⟩)] w fun e w'=>∃ g c,e = .returned (.slice (some ⟨g,0,none⟩) S.words.length c) ∧ Row w' w.heap.size (some ⟨g,0,none⟩) c S.words ∧ Ext w w':=by
  have HWD:=Lib.hid (Words_any h h0);clear h;go_enter Tryz.func39,Tryz.ntmps39
  go_wp2_with (go_at_call 20;refine HWD.out.mono ?_;rintro e w1 ⟨g,c,rfl,hR,hb1⟩)
  go_returns;exact ⟨g,c,rfl,hR,hb1⟩
end Go.Proofs.YtdokmmhjmclmnaaGreat
