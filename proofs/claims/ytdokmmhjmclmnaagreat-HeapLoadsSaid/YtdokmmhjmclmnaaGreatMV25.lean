/-
  Part 25 of a proof: LH10.
-/
import Derived.Test.YtdokmmhjmclmnaaGreatMV15
import Derived.Test.YtdokmmhjmclmnaaGreatMV23
import Derived.Test.YtdokmmhjmclmnaaGreatMV24
set_option linter.unusedSimpArgs false
set_option linter.unusedVariables false
set_option linter.unusedSectionVars false
set_option linter.unnecessarySimpa false
namespace Go.Proofs.YtdokmmhjmclmnaaGreat
variable {W' w w' w0 wb:World} {B a b base c cap ce cn f g gb i j k lb m n oc s sc:Nat} {choice t x:Int} {G W fs l o xs z:List Int} {L:List Hp.Tl} {r:Rd} {S S':Hp.Hs} {A N T:List Nat} {M:List (Nat × Int)} {op p pe pn q sp:Option Addr} {d:Hd} {acts:List Hp.Act'}
open Go.RowKit Go.Maps
theorem At_end_f {ch:Nat->List Nat} (h:HAt w d S) (hw:Hp.Wf S B L ch) (ha:a ∈ S.taken) (hf:Hp.ow S.words a=20+f) (he:Hp.isEnd (Hp.ow S.words a)=true) :
    Calls Tryz.prog 22 #[.pointer (some ⟨d.hb,0,none⟩),.int .i64 a] w fun e w'=>e = .returned (.tuple #[.agg #[.int .i64 (-1),.slice none 0 0],.agg #[.int .u8 f,.int .i64 (Hp.ow S.words (a+4))],.int .i64 0])/\Ext w w':=by
  have pa:=hw.part ha;have:=At_end h (Hp.has_of ha) (hw.tag_ ha) he (Hp.rd_ow (show a+4 < S.words.length by omega));rw [show Hp.ow S.words a-20=(f:Int) by omega] at this;exact this
theorem At_node_f {ch:Nat->List Nat} (h:HAt w d S) (hw:Hp.Wf S B L ch) (ha:a ∈ S.taken) (he:Hp.isEnd (Hp.ow S.words a)=false) :
    Calls Tryz.prog 22 #[.pointer (some ⟨d.hb,0,none⟩),.int .i64 a] w (NodePost w (Hp.ow S.words a) (Hp.fz (Hp.ow S.words) S.sizes a)):=by
  have ht:=hw.tag_le ha;refine At_node h (Hp.has_of ha) (hw.tag_ ha) he ?_ (by omega) (by omega);rw [hw.kids_ ha];simp [Hp.kz,he]
structure Lb (w0 W:World) (d:Hd) (g c:Nat) (V:List Int) (p:Option Addr) (cp:Nat) (l:List Int):Prop where
 ext:Ext w0 W
 own:∀ b ∈ d.own,w0.heap.size<=b
 ws:SliceAt W (some ⟨g,0,none⟩) c V
 gown:g ∉ d.own
 ls:SliceAt W p cp l
 lown:∀ b o,p=some ⟨b,o,none⟩->b ∉ d.own
theorem Lb.but {W:World} {V:List Int} {cp:Nat} (h:Lb w0 W d g c V p cp l) (k:But d.own W W'):Lb w0 W' d g c V p cp l:=
 ⟨k.toExt h.ext h.own,h.own,h.ws.but k (fun b o e=>by cases e;exact h.gown),h.gown,h.ls.but k h.lown,h.lown⟩
theorem Lb.ext' {W:World} {V:List Int} {cp:Nat} (h:Lb w0 W d g c V p cp l) (k:Ext W W'):Lb w0 W' d g c V p cp l:=
 h.but (But.ofExt k)
theorem SliceAt.cell_ {o:Nat} (h:SliceAt w (some ⟨b,o,none⟩) c l) (hx:Hp.rd l j=some x):w.cell? ⟨b,o+j,none⟩=some (.int .i64 x):=by
 obtain ⟨b',o',e,_,hc⟩:=h.cells (by have:=rd_lt hx;omega)
 cases e
 exact hc j x hx
def Rel (d:Hd) (S:Hp.Hs) (a b:World):Prop:=But d.own a b/\(HAt a d S->HAt b d S)
theorem Rel.refl (d:Hd) (S:Hp.Hs) (a:World):Rel d S a a:=⟨But.refl _ _,id⟩
theorem Rel.trans {a b c:World} (h:Rel d S a b) (k:Rel d S b c):Rel d S a c:=⟨h.1.trans k.1,fun x=>k.2 (h.2 x)⟩
theorem Rel.ext {a b c:World} (h:Rel d S a b) (k:Ext b c):Rel d S a c:=⟨h.1.ext k,fun x=>(h.2 x).ext k⟩
theorem cut_world {P:Program} {c:Code} {Q:Exit->Act->World->Prop} {a:Act} {F:World->Prop} (h:F w) (k:∀ w',F w'->c.wp P Q a w'):c.wp P Q a w:=k w h
end Go.Proofs.YtdokmmhjmclmnaaGreat
