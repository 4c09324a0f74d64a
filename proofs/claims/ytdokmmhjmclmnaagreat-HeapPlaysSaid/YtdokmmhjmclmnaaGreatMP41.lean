/-
  Part 41 of a proof: LH10.
-/
import Derived.Test.YtdokmmhjmclmnaaGreatMP19
import Derived.Test.YtdokmmhjmclmnaaGreatMP30
import Derived.Test.YtdokmmhjmclmnaaGreatMP40
set_option linter.unusedSimpArgs false
set_option linter.unusedVariables false
set_option linter.unusedSectionVars false
set_option linter.unnecessarySimpa false
namespace Go.Proofs.YtdokmmhjmclmnaaGreat
open Go.RowKit Go.Maps
structure Lb (w0 W : World) (d : Hd) (g c : Nat) (V : List Int) (p : Option Addr) (cp : Nat) (l : List Int) : Prop where
 ext : Ext w0 W
 own : ∀ b ∈ d.own, w0.heap.size ≤ b
 ws : SliceAt W (some ⟨g, 0, none⟩) c V
 gown : g ∉ d.own
 ls : SliceAt W p cp l
 lown : ∀ b o, p = some ⟨b, o, none⟩ → b ∉ d.own
theorem Lb.but {w0 W W' : World} {d : Hd} {g c : Nat} {V : List Int} {p : Option Addr} {cp : Nat} {l : List Int} (h : Lb w0 W d g c V p cp l) (k : But d.own W W') : Lb w0 W' d g c V p cp l :=
 ⟨k.toExt h.ext h.own, h.own, h.ws.but k (fun b o e => by cases e; exact h.gown), h.gown, h.ls.but k h.lown, h.lown⟩
theorem Lb.ext' {w0 W W' : World} {d : Hd} {g c : Nat} {V : List Int} {p : Option Addr} {cp : Nat} {l : List Int} (h : Lb w0 W d g c V p cp l) (k : Ext W W') : Lb w0 W' d g c V p cp l :=
 h.but (But.ofExt k)
def Rel (d : Hd) (S : Hp.Hs) (a b : World) : Prop := But d.own a b ∧ (HAt a d S → HAt b d S)
theorem Rel.refl (d : Hd) (S : Hp.Hs) (a : World) : Rel d S a a := ⟨But.refl _ _, id⟩
theorem Rel.trans {d : Hd} {S : Hp.Hs} {a b c : World} (h : Rel d S a b) (k : Rel d S b c) : Rel d S a c := ⟨h.1.trans k.1, fun x => k.2 (h.2 x)⟩
theorem Rel.ext {d : Hd} {S : Hp.Hs} {a b c : World} (h : Rel d S a b) (k : Ext b c) : Rel d S a c := ⟨h.1.ext k, fun x => (h.2 x).ext k⟩
end Go.Proofs.YtdokmmhjmclmnaaGreat
