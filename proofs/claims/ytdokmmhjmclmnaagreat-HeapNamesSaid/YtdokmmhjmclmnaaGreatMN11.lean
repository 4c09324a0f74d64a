/-
  Part 11 of a proof: RegFork HFn37 HFn38.
-/
import Derived.Deep.CutBlock
import Derived.Test.YtdokmmhjmclmnaaGreatMN02
import Derived.Test.YtdokmmhjmclmnaaGreatMN10
set_option linter.unusedSimpArgs false
set_option linter.unusedVariables false
set_option linter.unusedSectionVars false
set_option linter.unnecessarySimpa false
namespace Go.Proofs.YtdokmmhjmclmnaaGreat
open Go.RowKit
section
variable {P:Program} {ops:Array Oper} {Q:Exit → Act → World → Prop} {md:Region.Mode} {S:World → Prop} {n G:Nat}
theorem wpAnyX_fork {f:Nat} {listed:Array Bool} {a:Act} {w:World} (is:List Nat) (hr:Region.ready md ops listed=is) (h0:is ≠ []) (hn:∀ i ∈ is,i < n)
    (h:∀ i ∈ is,wpOp P ops Q i (fun a' w''=>S w'' ∧ wpAnyX P md ops Q S Eq n G f (listed.setIfInBounds i true) a' w'') a w):wpAnyX P md ops Q S Eq n G (f+1) listed a w:=by
  intro w' e _;subst e;subst hr;exact ⟨h0,fun i hi=>⟨hn i hi,h i hi⟩⟩
theorem wpOp_value {i:Nat} {oi:Oper} {v:Value} {K:Act → World → Prop} {a:Act} {w w'':World} (hi:ops[i]? = some oi) (hw:Region.wanted oi (yielded ops a.tmps)=true)
    (hrun:(execOp a.eval oi).run P w = .ok (.value v) w'') (hk:K (a.put oi.dst v) w''):wpOp P ops Q i K a w:=by
  unfold wpOp;simp only [hi];rw [if_pos hw];refine .inl ?_;unfold Oper.wp;rw [hrun];exact hk
end
theorem row_own {w:World} {base c:Nat} {p:Option Addr} {l:List Int} (hrow:Row w base p c l):∀ r,(Value.slice p l.length c).ownBlock=some r → p=some ⟨r,0,none⟩:=fun r hr=>by
 cases p with
 | none=>simp [Value.ownBlock] at hr
 | some q=>
  have hr':q.block=r:=by simpa [Value.ownBlock] using hr
  subst hr'
  rcases hrow.1.2 with ⟨e,_⟩ | ⟨g',cap',cur,e,h1,_⟩
  · injection e with e1
    cases e1
  · injection e with e1
    rw [Option.some.inj e1]
open Go.RowKit Go.Maps
structure ScB (w0 w:World) (sb:Nat) (d:Hd) (S:Hp.Hs) (v1 v2:Value) (p1:Option Addr) (k1:Nat) (res:List Int) (p2:Option Addr) (k2:Nat) (ats:List Int):Prop extends HAt w d S where
 ext0:Ext w0 w
 h0:w.cell? ⟨sb,0,none⟩=some (.pointer (some ⟨d.hb,0,none⟩))
 h1:w.cell? ⟨sb,1,none⟩=some v1
 h2:w.cell? ⟨sb,2,none⟩=some v2
 fz:∀ k,w.frozen? ⟨sb,k,none⟩=false
 r1:Row w 0 p1 k1 res
 r2:Row w 0 p2 k2 ats
 sb0:w0.heap.size ≤ sb
 own0:∀ b ∈ d.own,w0.heap.size ≤ b
 sbn:sb ∉ d.own
 n1:∀ b o,p1=some ⟨b,o,none⟩ → w0.heap.size ≤ b ∧ b ∉ d.own ∧ b ≠ sb
 n2:∀ b o,p2=some ⟨b,o,none⟩ → w0.heap.size ≤ b ∧ b ∉ d.own ∧ b ≠ sb
 n12:∀ b o b' o',p1=some ⟨b,o,none⟩ → p2=some ⟨b',o',none⟩ → b ≠ b'
 spn:∀ b o,d.sp=some ⟨b,o,none⟩ → b ≠ sb ∧ (∀ o',p1 ≠ some ⟨b,o',none⟩) ∧ ∀ o',p2 ≠ some ⟨b,o',none⟩
 opn:∀ b o,d.op=some ⟨b,o,none⟩ → b ≠ sb ∧ (∀ o',p1 ≠ some ⟨b,o',none⟩) ∧ ∀ o',p2 ≠ some ⟨b,o',none⟩
namespace ScB
variable {w0 w w':World} {sb:Nat} {d:Hd} {S:Hp.Hs} {v1 v2:Value} {p1 p2:Option Addr} {k1 k2:Nat} {res ats:List Int}
theorem lt1 (h:ScB w0 w sb d S v1 v2 p1 k1 res p2 k2 ats):sb < w.heap.size:=cell_lt h.h0
theorem ext (h:ScB w0 w sb d S v1 v2 p1 k1 res p2 k2 ats) (k:Ext w w'):ScB w0 w' sb d S v1 v2 p1 k1 res p2 k2 ats:=
 { h with
   toHAt:=h.toHAt.ext k
   ext0:=h.ext0.trans k
   h0:=(k.cell h.lt1 0).trans h.h0
   h1:=(k.cell h.lt1 1).trans h.h1
   h2:=(k.cell h.lt1 2).trans h.h2
   fz:=fun j=>(k.frozen h.lt1 j).trans (h.fz j)
   r1:=h.r1.ext k
   r2:=h.r2.ext k }
theorem stored (h:ScB w0 w sb d S v1 v2 p1 k1 res p2 k2 ats):ScAt w0 ((w.setCell ⟨sb,1,none⟩ (.slice p1 res.length k1)).setCell ⟨sb,2,none⟩ (.slice p2 ats.length k2)) sb d ⟨S,res,ats⟩ p1 k1 p2 k2:=by
 have k:But [sb] w ((w.setCell ⟨sb,1,none⟩ (.slice p1 res.length k1)).setCell ⟨sb,2,none⟩ (.slice p2 ats.length k2)):=((But.refl _ _).setCell (.inl (by simp)) _).setCell (.inl (by simp)) _
 have o:∀ x ∈ d.own,x ∉ [sb]:=fun x hx hm=>by
  have:x=sb:=by simpa using hm
  subst this;exact h.sbn hx
 exact
 { toHAt:=h.toHAt.but k (o _ d.hb_own) (o _ d.gw_own) (o _ d.gm_own) (fun b o e hm=>(h.spn b o e).1 (by simpa using hm)) (fun b o e hm=>(h.opn b o e).1 (by simpa using hm))
   ext0:=Ext.setCell (Ext.setCell h.ext0 h.sb0 _) h.sb0 _
   h0:=by simpa [go_sem] using h.h0
   h1:=by
    have:=World.cell?_setCell_same (w:=w) ⟨sb,1,none⟩ (.slice p1 res.length k1) h.h1
    simpa [go_sem] using this
   h2:=World.cell?_setCell_same _ _ _ (by simpa [go_sem] using h.h2)
   fz:=fun j=>by simpa [go_sem] using h.fz j
   r1:=h.r1.but_ k (fun b o e hm=>(h.n1 b o e).2.2 (by simpa using hm))
   r2:=h.r2.but_ k (fun b o e hm=>(h.n2 b o e).2.2 (by simpa using hm))
   sb0:=h.sb0
   own0:=h.own0
   sbn:=h.sbn
   n1:=h.n1
   n2:=h.n2
   n12:=h.n12
   spn:=h.spn
   opn:=h.opn }
end ScB
open Go.RowKit Go.Maps
end Go.Proofs.YtdokmmhjmclmnaaGreat
