/-
  Part 8 of a proof: HFn37 HFn38 HFn39 HFn40 HFn41 HFn42 HFn43 HFn44.
-/
import Derived.Deep.CutBlock
import Derived.Test.YtdokmmhjmclmnaaGreatMK02
import Derived.Test.YtdokmmhjmclmnaaGreatMK05
import Derived.Test.YtdokmmhjmclmnaaGreatMK07
set_option linter.unusedSimpArgs false
set_option linter.unusedVariables false
set_option linter.unusedSectionVars false
set_option linter.unnecessarySimpa false
namespace Go.Proofs.YtdokmmhjmclmnaaGreat
variable {W' w w' w0:World} {B a b base c ca cap f g i j k k1 k2 m n oc sb sc:Nat} {choice e t x:Int} {W fs l o z:List Int} {A T:List Nat} {op p p1 p2 pa pe pn q sp:Option Addr} {d:Hd} {S S':Hp.Hs} {M:List (Nat × Int)} {s s':Hp.Sc} {acts:List Hp.Act'}
open Go.RowKit Go.Maps
structure ScB (w0 w:World) (sb:Nat) (d:Hd) (S:Hp.Hs) (v1 v2:Value) (p1:Option Addr) (k1:Nat) (res:List Int) (p2:Option Addr) (k2:Nat) (ats:List Int):Prop extends HAt w d S where
 ext0:Ext w0 w
 h0:w.cell? ⟨sb,0,none⟩=some (.pointer (some ⟨d.hb,0,none⟩))
 h1:w.cell? ⟨sb,1,none⟩=some v1
 h2:w.cell? ⟨sb,2,none⟩=some v2
 fz:∀ k,w.frozen? ⟨sb,k,none⟩=false
 r1:Row w 0 p1 k1 res
 r2:Row w 0 p2 k2 ats
 sb0:w0.heap.size<=sb
 own0:∀ b ∈ d.own,w0.heap.size<=b
 sbn:sb ∉ d.own
 n1:∀ b o,p1=some ⟨b,o,none⟩->w0.heap.size<=b/\b ∉ d.own/\b ≠ sb
 n2:∀ b o,p2=some ⟨b,o,none⟩->w0.heap.size<=b/\b ∉ d.own/\b ≠ sb
 n12:∀ b o b' o',p1=some ⟨b,o,none⟩->p2=some ⟨b',o',none⟩->b ≠ b'
 spn:∀ b o,d.sp=some ⟨b,o,none⟩->b ≠ sb/\(∀ o',p1 ≠ some ⟨b,o',none⟩) /\ ∀ o',p2 ≠ some ⟨b,o',none⟩
 opn:∀ b o,d.op=some ⟨b,o,none⟩->b ≠ sb/\(∀ o',p1 ≠ some ⟨b,o',none⟩) /\ ∀ o',p2 ≠ some ⟨b,o',none⟩
theorem ScAt.toB (h:ScAt w0 w sb d s p1 k1 p2 k2):ScB w0 w sb d s.S (.slice p1 s.res.length k1) (.slice p2 s.ats.length k2) p1 k1 s.res p2 k2 s.ats:=
 { toHAt:=h.toHAt,ext0:=h.ext0,h0:=h.h0,h1:=h.h1,h2:=h.h2,fz:=h.fz,r1:=h.r1,r2:=h.r2,sb0:=h.sb0,own0:=h.own0,sbn:=h.sbn,n1:=h.n1,n2:=h.n2,n12:=h.n12,spn:=h.spn,opn:=h.opn }
namespace ScB
variable {w0 w w':World} {sb:Nat} {d:Hd} {S:Hp.Hs} {v1 v2:Value} {p1 p2:Option Addr} {k1 k2:Nat} {res ats:List Int}
theorem lt1 (h:ScB w0 w sb d S v1 v2 p1 k1 res p2 k2 ats):sb < w.heap.size:=cell_lt h.h0
theorem ext (h:ScB w0 w sb d S v1 v2 p1 k1 res p2 k2 ats) (k:Ext w w'):ScB w0 w' sb d S v1 v2 p1 k1 res p2 k2 ats:=
 { h with
   toHAt:=h.toHAt.ext k
   ext0:=h.ext0.trans k
   h0:=(k.cell h.lt1 0).trans h.h0
   h1:=(k.cell h.lt1 1).trans h.h1
   h2:=(k.cell h.lt1 2).trans h.h2
   fz:=fun j=>(k.frozen h.lt1 j).trans (h.fz j)
   r1:=h.r1.ext k
   r2:=h.r2.ext k }
theorem rlt (h:Row w 0 p c l) {o:Nat} (e:p=some ⟨b,o,none⟩):b < w.heap.size:=by
 rcases h.1.2 with ⟨e',_⟩ | ⟨g',_,_,e',_,hg',_⟩
 . injection e' with e1
   rw [e] at e1
   cases e1
 injection e' with e1
 rw [e] at e1
 cases e1
 exact (Array.getElem?_eq_some_iff.1 hg').1
theorem grow1 (h:ScB w0 w sb d S v1 v2 p1 k1 res p2 k2 ats) {row:Option Nat} {res':List Int} (hR:Row w' 0 (some ⟨g,0,none⟩) cap res') (hG:w.grownBy w' row) (hrow:∀ r,row=some r->p1=some ⟨r,0,none⟩) (hg:p1=some ⟨g,0,none⟩ \/ g=w.heap.size) :
    ScB w0 w' sb d S v1 v2 (some ⟨g,0,none⟩) cap res' p2 k2 ats:=by
  have kb:But row.toList w w':=⟨hG.os,hG.tape,hG.output,hG.size,fun i hi hn=>hG.block i hi (fun e=>hn (by rw [<- e];simp))⟩
  have far:∀ b,(∀ r,p1=some ⟨r,0,none⟩->b ≠ r)->b ∉ row.toList:=fun b hb hm=>by
   have e:row=some b:=by simpa using hm
   exact hb b (hrow b e) rfl
  have own:∀ b ∈ d.own,b ∉ row.toList:=fun b hb=>far b fun r e er=>(h.n1 r 0 e).2.1 (er ▸ hb)
  have sbf:sb ∉ row.toList:=far sb fun r e er=>(h.n1 r 0 e).2.2 er.symm
  have e0:=h.ext0.le;have l1:=h.lt1;have og:=h.toHAt.own_lt;have new:w0.heap.size<=g/\g ∉ d.own/\g ≠ sb:=by
   rcases hg with e | rfl
   . exact h.n1 g 0 e
   exact ⟨e0,fun hm=>by have:=og _ hm;omega,by omega⟩
  exact
  { toHAt:=h.toHAt.but kb (own _ d.hb_own) (own _ d.gw_own) (own _ d.gm_own) (fun b o e=>far b fun r er e2=>(h.spn b o e).2.1 0 (e2 ▸ er)) (fun b o e=>far b fun r er e2=>(h.opn b o e).2.1 0 (e2 ▸ er))
    ext0:=h.ext0.grown hG (fun r e=>(h.n1 r 0 (hrow r e)).1)
    h0:=(kb.cell l1 sbf 0).trans h.h0
    h1:=(kb.cell l1 sbf 1).trans h.h1
    h2:=(kb.cell l1 sbf 2).trans h.h2
    fz:=fun j=>(kb.frozen l1 sbf j).trans (h.fz j)
    r1:=hR
    r2:=h.r2.but_ kb (fun b o e=>far b fun r er e2=>h.n12 r 0 b o er e e2.symm)
    sb0:=h.sb0
    own0:=h.own0
    sbn:=h.sbn
    n1:=fun b o e=>by cases e;exact new
    n2:=h.n2
    n12:=fun b o b' o' e e'=>by
     cases e
     rcases hg with hg | rfl
     . exact h.n12 g 0 b' o' hg e'
     have:=rlt h.r2 e';omega
    spn:=fun b o e=>⟨(h.spn b o e).1,fun o' e'=>by
     cases e'
     rcases hg with hg | rfl
     . exact (h.spn g o e).2.1 0 hg
     . have:=h.old1 _ o e;omega,(h.spn b o e).2.2⟩
    opn:=fun b o e=>⟨(h.opn b o e).1,fun o' e'=>by
     cases e'
     rcases hg with hg | rfl
     . exact (h.opn g o e).2.1 0 hg
     . have:=h.old2 _ o e;omega,(h.opn b o e).2.2⟩ }
theorem grow2 (h:ScB w0 w sb d S v1 v2 p1 k1 res p2 k2 ats) {row:Option Nat} {ats':List Int} (hR:Row w' 0 (some ⟨g,0,none⟩) cap ats') (hG:w.grownBy w' row) (hrow:∀ r,row=some r->p2=some ⟨r,0,none⟩) (hg:p2=some ⟨g,0,none⟩ \/ g=w.heap.size) :
    ScB w0 w' sb d S v1 v2 p1 k1 res (some ⟨g,0,none⟩) cap ats':=by
  have kb:But row.toList w w':=⟨hG.os,hG.tape,hG.output,hG.size,fun i hi hn=>hG.block i hi (fun e=>hn (by rw [<- e];simp))⟩
  have far:∀ b,(∀ r,p2=some ⟨r,0,none⟩->b ≠ r)->b ∉ row.toList:=fun b hb hm=>by
   have e:row=some b:=by simpa using hm
   exact hb b (hrow b e) rfl
  have own:∀ b ∈ d.own,b ∉ row.toList:=fun b hb=>far b fun r e er=>(h.n2 r 0 e).2.1 (er ▸ hb)
  have sbf:sb ∉ row.toList:=far sb fun r e er=>(h.n2 r 0 e).2.2 er.symm
  have e0:=h.ext0.le;have l1:=h.lt1;have og:=h.toHAt.own_lt;have new:w0.heap.size<=g/\g ∉ d.own/\g ≠ sb:=by
   rcases hg with e | rfl
   . exact h.n2 g 0 e
   exact ⟨e0,fun hm=>by have:=og _ hm;omega,by omega⟩
  exact
  { toHAt:=h.toHAt.but kb (own _ d.hb_own) (own _ d.gw_own) (own _ d.gm_own) (fun b o e=>far b fun r er e2=>(h.spn b o e).2.2 0 (e2 ▸ er)) (fun b o e=>far b fun r er e2=>(h.opn b o e).2.2 0 (e2 ▸ er))
    ext0:=h.ext0.grown hG (fun r e=>(h.n2 r 0 (hrow r e)).1)
    h0:=(kb.cell l1 sbf 0).trans h.h0
    h1:=(kb.cell l1 sbf 1).trans h.h1
    h2:=(kb.cell l1 sbf 2).trans h.h2
    fz:=fun j=>(kb.frozen l1 sbf j).trans (h.fz j)
    r1:=h.r1.but_ kb (fun b o e=>far b fun r er e2=>h.n12 b o r 0 e er e2)
    r2:=hR
    sb0:=h.sb0
    own0:=h.own0
    sbn:=h.sbn
    n1:=h.n1
    n2:=fun b o e=>by cases e;exact new
    n12:=fun b o b' o' e e'=>by
     cases e'
     rcases hg with hg | rfl
     . exact h.n12 b o g 0 e hg
     have:=rlt h.r1 e;omega
    spn:=fun b o e=>⟨(h.spn b o e).1,(h.spn b o e).2.1,fun o' e'=>by
     cases e'
     rcases hg with hg | rfl
     . exact (h.spn g o e).2.2 0 hg
     . have:=h.old1 _ o e;omega⟩
    opn:=fun b o e=>⟨(h.opn b o e).1,(h.opn b o e).2.1,fun o' e'=>by
     cases e'
     rcases hg with hg | rfl
     . exact (h.opn g o e).2.2 0 hg
     . have:=h.old2 _ o e;omega⟩ }
theorem stored (h:ScB w0 w sb d S v1 v2 p1 k1 res p2 k2 ats):ScAt w0 ((w.setCell ⟨sb,1,none⟩ (.slice p1 res.length k1)).setCell ⟨sb,2,none⟩ (.slice p2 ats.length k2)) sb d ⟨S,res,ats⟩ p1 k1 p2 k2:=by
 have k:But [sb] w ((w.setCell ⟨sb,1,none⟩ (.slice p1 res.length k1)).setCell ⟨sb,2,none⟩ (.slice p2 ats.length k2)):=((But.refl _ _).setCell (.inl (by simp)) _).setCell (.inl (by simp)) _
 have o:∀ x ∈ d.own,x ∉ [sb]:=fun x hx hm=>by
  have:x=sb:=by simpa using hm
  subst this;exact h.sbn hx
 exact
 { toHAt:=h.toHAt.but k (o _ d.hb_own) (o _ d.gw_own) (o _ d.gm_own) (fun b o e hm=>(h.spn b o e).1 (by simpa using hm)) (fun b o e hm=>(h.opn b o e).1 (by simpa using hm))
   ext0:=Ext.setCell (Ext.setCell h.ext0 h.sb0 _) h.sb0 _
   h0:=by simpa [go_sem] using h.h0
   h1:=by
    have:=World.cell?_setCell_same (w:=w) ⟨sb,1,none⟩ (.slice p1 res.length k1) h.h1
    simpa [go_sem] using this
   h2:=World.cell?_setCell_same _ _ _ (by simpa [go_sem] using h.h2)
   fz:=fun j=>by simpa [go_sem] using h.fz j
   r1:=h.r1.but_ k (fun b o e hm=>(h.n1 b o e).2.2 (by simpa using hm))
   r2:=h.r2.but_ k (fun b o e hm=>(h.n2 b o e).2.2 (by simpa using hm))
   sb0:=h.sb0
   own0:=h.own0
   sbn:=h.sbn
   n1:=h.n1
   n2:=h.n2
   n12:=h.n12
   spn:=h.spn
   opn:=h.opn }
end ScB
open Go.RowKit Go.Maps
set_option maxRecDepth 100000 in
set_option maxHeartbeats 8000000 in
theorem note_any {r:Int} {isA:Bool} (h:ScAt w0 w sb d s p1 k1 p2 k2) (hl1:s.res.length < 1000000) (hl2:s.ats.length < 1000000) (hr1 : -9223372036854775808<=r) (hr2:r<=9223372036854775807) (he1 : -100000<=e) (he2:e<=100000) :
    Calls Tryz.prog 142 #[.pointer (some ⟨sb,0,none⟩),.int .i64 r,.int .i64 e,.bool isA] w fun e' w'=>e' = .returned (.tuple #[]) /\ ∃ q1 c1 q2 c2,ScAt w0 w' sb d (s.note r e isA) q1 c1 q2 c2:=by
  obtain ⟨x,hx⟩:∃ x,(if e ≠ 0 then -e else r)=x:=⟨_,rfl⟩
  obtain ⟨y,hy⟩:∃ y,(if e ≠ 0 then 0 else if isA then r else 0)=y:=⟨_,rfl⟩
  have hn:s.note r e isA=⟨s.S,s.res ++ [x],s.ats ++ [y]⟩:=by simp only [Hp.Sc.note,hx,hy]
  rw [hn];clear hn;have bx : -9223372036854775808<=x/\x<=9223372036854775807:=by rw [<- hx];split <;> omega
  have by_ : -9223372036854775808<=y/\y<=9223372036854775807:=by rw [<- hy];split <;> (try split) <;> omega
  have B:=hZ h.toB;have c1:=h.h1;have c2:=h.h2;have z1:=h.lt1;have HX:=hZ hx;have HY:=hZ hy;clear h;have cases3:(e ≠ 0/\x = -e/\y=0) \/ (e=0/\isA=true/\x=r/\y=r) \/ (e=0/\isA=false/\x=r/\y=0):=by
   rw [<- hx,<- hy]
   by_cases h0:e=0
   . subst h0
     cases isA <;> simp
   simp [h0]
  have h0:=hZ (fun b o (e':p1=some ⟨b,o,none⟩)=>ScB.rlt B.out.r1 e');clear hx hy HX HY;go_enter Tryz.func142,Tryz.ntmps142
  go_upto_block 0 with fail
  go_cut [1,8] (fun s1 s8 W=>s1 = .int .i64 x/\s8 = .int .i64 y/\W=w)
  case first=>
   rcases cases3 with ⟨h0',rfl,rfl⟩ | ⟨rfl,rfl,rfl,rfl⟩ | ⟨rfl,rfl,rfl,rfl⟩
   . have t0:(e != 0)=true:=by simpa using h0'
     have wn:IntKind.i64.wrap (-e) = -e:=IntWalk.i64_in _ (by omega)
     go_wp2_with fail
     go_meet
     exact ⟨rfl,rfl,rfl⟩
   . go_wp2_with fail
     go_meet
     exact ⟨rfl,rfl,rfl⟩
   go_wp2_with fail
   go_meet
   exact ⟨rfl,rfl,rfl⟩
  case rest=>
   obtain ⟨rfl,rfl,hw⟩:=hcut;obtain rfl:=hw.symm;go_upto_region 5 with (fail)
   refine wp_region_any (by kernel_rfl) ?_;refine' tkA 1 rfl ?hy1_1 ?_
   case hy1_1=>(intro w;go_simp;try with_reducible rfl)
   refine layy ?_;refine wpAny_to_X (S:=(fun W:World=>W.cell? ⟨sb,1,none⟩=some (.slice p1 s.res.length k1)/\W.cell? ⟨sb,2,none⟩=some (.slice p2 s.ats.length k2))) (R:=Eq) 16 15 (fun _=>rfl) (by exact ⟨c1,c2⟩) ?_ (by rfl);refine' tkE 0 rfl ?hy0_2 ?_
   case hy0_2=>(intro w _;go_simp;try with_reducible rfl)
   refine layy ?_;refine' tkE 2 rfl ?hy2_3 ?_
   case hy2_3=>(intro w _;go_simp;try with_reducible rfl)
   refine layy ?_;refine' tkE 3 rfl ?hy3_4 ?_
   case hy3_4=>(intro w _;go_simp;try with_reducible rfl)
   refine layy ?_;refine' tkE 4 rfl ?hy4_5 ?_
   case hy4_5=>(intro w _;go_simp;try with_reducible rfl)
   refine layy ?_;refine' tkE 5 rfl ?hy5_6 ?_
   case hy5_6=>(intro w hSw;(obtain ⟨q1,q2⟩:=hSw);go_simp;try with_reducible rfl)
   refine layy ?_;refine' tkE 6 rfl ?hy6_7 ?_
   case hy6_7=>(intro w _;go_simp;try with_reducible rfl)
   refine layy ?_;refine' tkE 9 rfl ?hy9_8 ?_
   case hy9_8=>(intro w _;go_simp;try with_reducible rfl)
   refine layy ?_;refine' tkE 10 rfl ?hy10_9 ?_
   case hy10_9=>(intro w _;go_simp;try with_reducible rfl)
   refine layy ?_;refine' tkE 11 rfl ?hy11_10 ?_
   case hy11_10=>(intro w _;go_simp;try with_reducible rfl)
   refine layy ?_;refine' tkE 12 rfl ?hy12_11 ?_
   case hy12_11=>(intro w hSw;(obtain ⟨q1,q2⟩:=hSw);go_simp;try with_reducible rfl)
   refine layy ?_;refine' tkE 13 rfl ?hy13_12 ?_
   case hy13_12=>(intro w _;go_simp;try with_reducible rfl)
   refine layy ?_;have BD:=hZ (B.out.ext (Ext.drew (Ext.refl w)));change wpAnyX _ _ _ _ _ _ _ _ _ _ _ (World.drew w);generalize World.drew w=wd at BD ⊢;refine wpAnyX_fork [7,14] (by kernel_rfl) (by simp) (by simp) ?_;intro i hi;have hi:i=7 \/ i=14:=by simpa using hi
   rcases hi with rfl | rfl
   . have B0_7:=hZ (BD.out.ext (Ext.alloc (Ext.refl wd) (.cells #[.int .i64 (x)] 3)));have e7:(wd.alloc (.cells #[.int .i64 (x)] 3)).cell? ⟨wd.heap.size,0,none⟩=some (.int .i64 (x)):=by simp [go_sem]
     refine wpOp_value (i:=7) (v:=.slice (some ⟨wd.heap.size,0,none⟩) 1 1) (w'':=wd.alloc (.cells #[.int .i64 (x)] 3)) rfl (by rfl) (by go_simp) ⟨⟨B0_7.out.h1,B0_7.out.h2⟩, ?_⟩;refine layy ?_;generalize wd.alloc (.cells #[.int .i64 (x)] 3)=w0_7 at *;refine wpAnyX_fork [8,14] (by kernel_rfl) (by simp) (by simp) ?_;intro i hi;have hi:i=8 \/ i=14:=by simpa using hi
     rcases hi with rfl | rfl
     . refine wpOp_append (.tmp 22) (.tmp 24) rfl rfl (by rfl) rfl rfl B0_7.out.r1 e7 (by omega) (by omega) (by omega) ?_;intro ga ca w1_8 rowa hRa hGa hrowa hga hlta;have B1_8:=hZ (B0_7.out.grow1 hRa hGa hrowa hga);refine ⟨⟨B1_8.out.h1,B1_8.out.h2⟩, ?_⟩;refine layy ?_;refine wpAnyX_fork [14] (by kernel_rfl) (by simp) (by simp) ?_;intro i hi;obtain rfl:i=14:=by simpa using hi
       have B2_14:=hZ (B1_8.out.ext (Ext.alloc (Ext.refl w1_8) (.cells #[.int .i64 (y)] 3)));have e14:(w1_8.alloc (.cells #[.int .i64 (y)] 3)).cell? ⟨w1_8.heap.size,0,none⟩=some (.int .i64 (y)):=by simp [go_sem]
       refine wpOp_value (i:=14) (v:=.slice (some ⟨w1_8.heap.size,0,none⟩) 1 1) (w'':=w1_8.alloc (.cells #[.int .i64 (y)] 3)) rfl (by rfl) (by go_simp) ⟨⟨B2_14.out.h1,B2_14.out.h2⟩, ?_⟩;refine layy ?_;generalize w1_8.alloc (.cells #[.int .i64 (y)] 3)=w2_14 at *;refine wpAnyX_fork [15] (by kernel_rfl) (by simp) (by simp) ?_;intro i hi;obtain rfl:i=15:=by simpa using hi
       refine wpOp_append (.tmp 29) (.tmp 31) rfl rfl (by rfl) rfl rfl B2_14.out.r2 e14 (by omega) (by omega) (by omega) ?_;intro gb cb w3_15 rowb hRb hGb hrowb hgb hltb;have B3_15:=hZ (B2_14.out.grow2 hRb hGb hrowb hgb);refine ⟨⟨B3_15.out.h1,B3_15.out.h2⟩, ?_⟩;refine layy ?_;refine wpAnyX_done (by kernel_rfl) ?_;intro w9 e9 _;subst e9;simp only [List.drop_succ_cons,List.drop_zero];have y1:=B3_15.out.h1;have y2:=B3_15.out.h2;have y3:=B3_15.out.fz 1;have y4:=B3_15.out.fz 2;have FIN:=B3_15.out.stored;simp only [List.length_append,List.length_singleton] at FIN;have FINH:=hZ FIN;clear FIN
       go_wp2_with fail
       go_returns;exact ⟨rfl,_,_,_,_,FINH.out⟩
     have B1_14:=hZ (B0_7.out.ext (Ext.alloc (Ext.refl w0_7) (.cells #[.int .i64 (y)] 3)));have e14:(w0_7.alloc (.cells #[.int .i64 (y)] 3)).cell? ⟨w0_7.heap.size,0,none⟩=some (.int .i64 (y)):=by simp [go_sem]
     have far14:∀ b o,p1=some ⟨b,o,none⟩->b ≠ w0_7.heap.size:=fun b o e'=>by have:=ScB.rlt B0_7.out.r1 e';omega
     refine wpOp_value (i:=14) (v:=.slice (some ⟨w0_7.heap.size,0,none⟩) 1 1) (w'':=w0_7.alloc (.cells #[.int .i64 (y)] 3)) rfl (by rfl) (by go_simp) ⟨⟨B1_14.out.h1,B1_14.out.h2⟩, ?_⟩;refine layy ?_;have e7:=((Ext.alloc (Ext.refl w0_7) (.cells #[.int .i64 (y)] 3)).cell (cell_lt e7) 0).trans e7;generalize w0_7.alloc (.cells #[.int .i64 (y)] 3)=w1_14 at *;refine wpAnyX_fork [8] (by kernel_rfl) (by simp) (by simp) ?_;intro i hi;obtain rfl:i=8:=by simpa using hi
     refine wpOp_append (.tmp 22) (.tmp 24) rfl rfl (by rfl) rfl rfl B1_14.out.r1 e7 (by omega) (by omega) (by omega) ?_;intro ga ca w2_8 rowa hRa hGa hrowa hga hlta;have B2_8:=hZ (B1_14.out.grow1 hRa hGa hrowa hga);refine ⟨⟨B2_8.out.h1,B2_8.out.h2⟩, ?_⟩;refine layy ?_;have e14:w2_8.cell? ⟨_,0,none⟩=some (.int .i64 (y)):=(World.cell?_of_block (hGa.block _ (cell_lt e14) (fun e'=>far14 _ 0 (hrowa _ e'.symm) rfl))).trans e14;refine wpAnyX_fork [15] (by kernel_rfl) (by simp) (by simp) ?_;intro i hi;obtain rfl:i=15:=by simpa using hi
     refine wpOp_append (.tmp 29) (.tmp 31) rfl rfl (by rfl) rfl rfl B2_8.out.r2 e14 (by omega) (by omega) (by omega) ?_;intro gb cb w3_15 rowb hRb hGb hrowb hgb hltb;have B3_15:=hZ (B2_8.out.grow2 hRb hGb hrowb hgb);refine ⟨⟨B3_15.out.h1,B3_15.out.h2⟩, ?_⟩;refine layy ?_;refine wpAnyX_done (by kernel_rfl) ?_;intro w9 e9 _;subst e9;simp only [List.drop_succ_cons,List.drop_zero];have y1:=B3_15.out.h1;have y2:=B3_15.out.h2;have y3:=B3_15.out.fz 1;have y4:=B3_15.out.fz 2;have FIN:=B3_15.out.stored;simp only [List.length_append,List.length_singleton] at FIN;have FINH:=hZ FIN;clear FIN
     go_wp2_with fail
     go_returns;exact ⟨rfl,_,_,_,_,FINH.out⟩
   have B0_14:=hZ (BD.out.ext (Ext.alloc (Ext.refl wd) (.cells #[.int .i64 (y)] 3)));have e14:(wd.alloc (.cells #[.int .i64 (y)] 3)).cell? ⟨wd.heap.size,0,none⟩=some (.int .i64 (y)):=by simp [go_sem]
   have far14:∀ b o,p1=some ⟨b,o,none⟩->b ≠ wd.heap.size:=fun b o e'=>by have:=ScB.rlt BD.out.r1 e';omega
   refine wpOp_value (i:=14) (v:=.slice (some ⟨wd.heap.size,0,none⟩) 1 1) (w'':=wd.alloc (.cells #[.int .i64 (y)] 3)) rfl (by rfl) (by go_simp) ⟨⟨B0_14.out.h1,B0_14.out.h2⟩, ?_⟩;refine layy ?_;generalize wd.alloc (.cells #[.int .i64 (y)] 3)=w0_14 at *;refine wpAnyX_fork [7] (by kernel_rfl) (by simp) (by simp) ?_;intro i hi;obtain rfl:i=7:=by simpa using hi
   have B1_7:=hZ (B0_14.out.ext (Ext.alloc (Ext.refl w0_14) (.cells #[.int .i64 (x)] 3)));have e7:(w0_14.alloc (.cells #[.int .i64 (x)] 3)).cell? ⟨w0_14.heap.size,0,none⟩=some (.int .i64 (x)):=by simp [go_sem]
   refine wpOp_value (i:=7) (v:=.slice (some ⟨w0_14.heap.size,0,none⟩) 1 1) (w'':=w0_14.alloc (.cells #[.int .i64 (x)] 3)) rfl (by rfl) (by go_simp) ⟨⟨B1_7.out.h1,B1_7.out.h2⟩, ?_⟩;refine layy ?_;have e14:=((Ext.alloc (Ext.refl w0_14) (.cells #[.int .i64 (x)] 3)).cell (cell_lt e14) 0).trans e14;generalize w0_14.alloc (.cells #[.int .i64 (x)] 3)=w1_7 at *;refine wpAnyX_fork [8] (by kernel_rfl) (by simp) (by simp) ?_;intro i hi;obtain rfl:i=8:=by simpa using hi
   refine wpOp_append (.tmp 22) (.tmp 24) rfl rfl (by rfl) rfl rfl B1_7.out.r1 e7 (by omega) (by omega) (by omega) ?_;intro ga ca w2_8 rowa hRa hGa hrowa hga hlta;have B2_8:=hZ (B1_7.out.grow1 hRa hGa hrowa hga);refine ⟨⟨B2_8.out.h1,B2_8.out.h2⟩, ?_⟩;refine layy ?_;have e14:w2_8.cell? ⟨_,0,none⟩=some (.int .i64 (y)):=(World.cell?_of_block (hGa.block _ (cell_lt e14) (fun e'=>far14 _ 0 (hrowa _ e'.symm) rfl))).trans e14;refine wpAnyX_fork [15] (by kernel_rfl) (by simp) (by simp) ?_;intro i hi;obtain rfl:i=15:=by simpa using hi
   refine wpOp_append (.tmp 29) (.tmp 31) rfl rfl (by rfl) rfl rfl B2_8.out.r2 e14 (by omega) (by omega) (by omega) ?_;intro gb cb w3_15 rowb hRb hGb hrowb hgb hltb;have B3_15:=hZ (B2_8.out.grow2 hRb hGb hrowb hgb);refine ⟨⟨B3_15.out.h1,B3_15.out.h2⟩, ?_⟩;refine layy ?_;refine wpAnyX_done (by kernel_rfl) ?_;intro w9 e9 _;subst e9;simp only [List.drop_succ_cons,List.drop_zero];have y1:=B3_15.out.h1;have y2:=B3_15.out.h2;have y3:=B3_15.out.fz 1;have y4:=B3_15.out.fz 2;have FIN:=B3_15.out.stored;simp only [List.length_append,List.length_singleton] at FIN;have FINH:=hZ FIN;clear FIN
   go_wp2_with fail
   go_returns;exact ⟨rfl,_,_,_,_,FINH.out⟩
theorem lookFrom_small {S:Hp.Hs} {tag:Int} {l:List Int} (hs:S.words.length<=1000000):∀ {n a r:Nat},S.lookFrom tag l n a=some r->r<=1000000
 | n,a,r,h=>by
  rcases lookFrom_succ h with ⟨_,rfl⟩ | ⟨_,n',t,f,hn,ht,_,h1⟩
  . omega
  rcases h1 with ⟨_,_,rfl⟩ | ⟨_,a',_,h2⟩
  . have:=rd_lt ht;omega
  subst hn;exact lookFrom_small hs h2
 termination_by n=>n
theorem takeFrom_small {wide:Nat}:∀ {n link r:Nat} {W W':List Int},W.length<=1000000->Hp.Hs.takeFrom W wide n link=some (r,W')->r<=1000000
 | n,link,r,W,W',hs,h=>by
  obtain ⟨n',a,hn,_,hq⟩:=takeFrom_succ h
  rcases hq with ⟨_,rfl,_⟩ | ⟨_,v,next,hv,_,hq⟩
  . omega
  have hv:=rd_lt (rc_some hv).1
  rcases hq with ⟨_,rfl,_⟩ | ⟨_,_,rfl,_⟩ | ⟨_,_,hq⟩
  . omega
  . omega
  subst hn;exact takeFrom_small hs hq
 termination_by n=>n
theorem look_small {tag:Int} {r:Nat} (hs:S.words.length<=1000000) (h:S.look tag l=some r):r<=1000000:=by
 unfold Hp.Hs.look at h
 simp only [Option.bind_eq_bind,Option.bind_eq_some_iff] at h
 obtain ⟨_,_,_,_,h⟩:=h
 exact lookFrom_small hs h
theorem add_small {tag:Int} {r:Nat} (hs:S.words.length<=1000000) (h:S.add tag l=some (r,S')):r<=1000000:=by
 obtain ⟨a0,hL,hq⟩:=add_some h
 rcases hq with ⟨_,rfl,_⟩ | ⟨_,k,a,W,_,hT,hq⟩
 . exact look_small hs hL
 have:=takeFrom_small hs hT
 rcases hq with ⟨rfl,rfl,_⟩ | ⟨_,rfl,_⟩ <;> omega
theorem full_small {r:Nat} {a:Int} (hr:r<=1000000) (h:Hp.Hs.full (r,S)=(a,e,S')):0<=a/\a<=1000000/\0<=e/\e<=8:=by
 rw [full_eq] at h
 simp only [Prod.mk.injEq] at h
 obtain ⟨rfl,rfl,_⟩:=h
 unfold err8
 split <;> omega
theorem end_small {f n r:Int} (hs:S.words.length<=1000000) (h:S.end' f n=some (r,e,S')):0<=r/\r<=1000000/\0<=e/\e<=8:=by
 unfold Hp.Hs.end' at h
 split at h
 . simp only [Option.some.injEq,Prod.mk.injEq] at h;omega
 simp only [Option.bind_eq_bind,Option.bind_eq_some_iff,Option.pure_def,Option.some.injEq] at h
 obtain ⟨⟨a,S1⟩,ha,h⟩:=h
 exact full_small (add_small hs ha) h
def actV (x:Hp.Act') (p:Option Addr) (c:Nat) (f:Nat):Value:=.agg #[.int .u8 x.kind,.int .i64 x.a,.slice p x.list.length c,.int .u8 f,.int .i64 x.n]
def DoPost (w0:World) (sb:Nat) (d:Hd) (s:Hp.Sc) (e:Ending) (w':World):Prop:=
 e = .returned (.tuple #[]) /\ ∃ g cap q1 c1 q2 c2,ScAt w0 w' sb { d with gw:=g,cap:=cap } s q1 c1 q2 c2
theorem note_do {r:Int} {isA:Bool} (h:ScAt w0 w sb d s p1 k1 p2 k2) (hl1:s.res.length < 1000000) (hl2:s.ats.length < 1000000) (hr1 : -9223372036854775808<=r) (hr2:r<=9223372036854775807) (he1 : -100000<=e) (he2:e<=100000) :
    Calls Tryz.prog 142 #[.pointer (some ⟨sb,0,none⟩),.int .i64 r,.int .i64 e,.bool isA] w (DoPost w0 sb d (s.note r e isA)):=
  (note_any h hl1 hl2 hr1 hr2 he1 he2).mono fun _ _ ⟨h1,q1,c1,q2,c2,h2⟩=>⟨h1,d.gw,d.cap,q1,c1,q2,c2,h2⟩
theorem wp_noPanic {P:Program} {c:Code} {Q:Exit->Act->World->Prop} {a:Act} (h:c.wp P Q a w):c.wp P Q a w:=h
set_option maxRecDepth 100000 in
set_option maxHeartbeats 8000000 in
theorem do_end {x:Hp.Act'} (h:ScAt w0 w sb d s p1 k1 p2 k2) (hl1:s.res.length < 1000000) (hl2:s.ats.length < 1000000) (hk:x.kind=1) (hf:x.fault=f) (hf2:f < 256) (hn1 : -9223372036854775808<=x.n) (hn2:x.n<=9223372036854775807) (hr:s.do' x=some s') :
    Calls Tryz.prog 93 #[.pointer (some ⟨sb,0,none⟩),actV x p c f] w (DoPost w0 sb d s'):=by
  unfold Hp.Sc.do' at hr
  rw [if_pos hk] at hr;simp only [Option.bind_eq_bind,Option.bind_eq_some_iff] at hr;obtain ⟨⟨r,e,S1⟩,hr,hs⟩:=hr;simp only [Option.some.injEq] at hs;subst hs;rw [hf] at hr;have H:=hZ h;have HR:=hZ hr;unfold actV;rw [hk];clear h hr hk;go_enter Tryz.func93,Tryz.ntmps93;go_upto_region 3 with (fail)
  have bs:=end_small H.out.small HR.out;have H1:=hZ (H.out.ext (Ext.alloc (Ext.refl w) (.cells #[.int .u8 1,.int .i64 x.a,.slice p x.list.length c,.int .u8 f,.int .i64 x.n] 85)));have b3:(w.alloc (.cells #[.int .u8 1,.int .i64 x.a,.slice p x.list.length c,.int .u8 f,.int .i64 x.n] 85)).cell? ⟨w.heap.size,3,none⟩=some (.int .u8 f):=by simp [go_sem]
  have b4:(w.alloc (.cells #[.int .u8 1,.int .i64 x.a,.slice p x.list.length c,.int .u8 f,.int .i64 x.n] 85)).cell? ⟨w.heap.size,4,none⟩=some (.int .i64 x.n):=by simp [go_sem]
  have own:=H.out.own_lt;have bn:w.heap.size ∉ d.own:=fun hm=>by have:=own _ hm;omega
  generalize w.alloc (.cells #[.int .u8 1,.int .i64 x.a,.slice p x.list.length c,.int .u8 f,.int .i64 x.n] 85)=w1 at H1 b3 b4 ⊢;have BN:=hZ bn;have h0:=H1.out.h0;clear own bn H;refine wp_noPanic ?_;refine wp_region_plan (S:=(fun W:World=>W.cell? ⟨sb,0,none⟩=some (.pointer (some ⟨d.hb,0,none⟩))/\W.cell? ⟨w.heap.size,3,none⟩=some (.int .u8 f)/\W.cell? ⟨w.heap.size,4,none⟩=some (.int .i64 x.n))) (R:=Eq) [false,false,false,false,false,false,true,false,false,false,false,false] (by kernel_rfl) (fun _=>rfl) (fun _ _ _ h k=>h.trans k) (by kernel_rfl) (fun _ _ d _ _ h=>by cases d <;> exact h) (by kernel_rfl) (by exact ⟨h0,b3,b4⟩) ?_;intro ops hops';have hops:=hZ hops';clear hops';have HD:=hZ (H1.out.ext (Ext.drew (Ext.refl w1)));have d0:(World.drew w1).cell? ⟨sb,0,none⟩=some (.pointer (some ⟨d.hb,0,none⟩)):=h0;have d3:(World.drew w1).cell? ⟨w.heap.size,3,none⟩=some (.int .u8 f):=b3;have d4:(World.drew w1).cell? ⟨w.heap.size,4,none⟩=some (.int .i64 x.n):=b4;generalize World.drew w1=wd at HD d0 d3 d4 ⊢;clear H1 h0 b3 b4;refine' tkP hops ?_;refine' tkP hops ?_;refine' tkP hops ?_;refine' tkQ hops ?hy3_4 ?_
  case hy3_4=>(intro w hSw;(obtain ⟨q0,q3,q4⟩:=hSw);go_simp;try with_reducible rfl)
  refine layy ?_;refine' tkP hops ?_;refine' tkQ hops ?hy5_6 ?_
  case hy5_6=>(intro w hSw;(obtain ⟨q0,q3,q4⟩:=hSw);go_simp;try with_reducible rfl)
  refine layy ?_;refine Plan.run (fun v W=>v = .tuple #[.int .i64 r,.int .i64 e]/\Now wd W d S1) (by first | rfl | (rw [hops.out];rfl)) ?run6 ?vs6 ?next6
  case run6=>
   intro w' e1 _;subst e1;refine .inl ⟨43,#[.pointer (some ⟨d.hb,0,none⟩),.agg #[.int .u8 f,.int .i64 x.n]], ?_,(End_any HD.out.toHAt hf2 hn1 hn2 HR.out).mono ?_⟩
   . go_simp
   rintro e' w2 ⟨rfl,hN⟩;exact ⟨_,rfl,rfl,hN⟩
  case vs6=>
   rintro v W ⟨rfl,hN⟩ W' e1;subst e1;exact ⟨(hN.but.cell (cell_lt d0) HD.out.sbn 0).trans d0,(hN.but.cell (cell_lt d3) BN.out 3).trans d3,(hN.but.cell (cell_lt d4) BN.out 4).trans d4⟩
  rintro v w2 ⟨rfl,hN⟩;have N2:=hZ (HD.out.turn (g:=d.gw) (cap:=d.cap) hN.but hN.toHAt (.inl rfl));clear hN d0 d3 d4 HD;refine layy ?_;refine' tkP hops ?_;refine' tkP hops ?_;refine' tkP hops ?_;refine' tkP hops ?_;refine' tkP hops ?_;refine Plan.done ?_;intro w3 e3 _;subst e3
  go_wp2_with (go_at_call 142;refine (note_do N2.out hl1 hl2 (by omega) (by omega) (by omega) (by omega)).mono ?_;rintro e' w4 ⟨rfl,hD⟩)
  go_returns;exact ⟨rfl,hD⟩
theorem checkNode_small {a:Int} (h:S.checkNode a l=some e):0<=e/\e<=8:=by
 unfold Hp.Hs.checkNode at h
 split at h
 . cases h
   omega
 simp only [Option.bind_eq_bind,Option.bind_eq_some_iff] at h
 obtain ⟨v,_,h⟩:=h
 split at h
 . cases h
   omega
 split at h
 . cases h
   omega
 simp only [Option.bind_eq_some_iff] at h
 obtain ⟨b,_,h⟩:=h
 split at h
 . cases h
   omega
 cases h
 omega
theorem make_wf {a:Int} {r:Int} (hs:S.words.length<=1000000) (hl:∀ x ∈ l,-9223372036854775808<=x/\x<=9223372036854775807) (h:S.make a l=some (r,e,S')) : -9223372036854775808<=r/\r<=9223372036854775807/\0<=e/\e<=8:=by
 unfold Hp.Hs.make at h
 simp only [Option.bind_eq_bind,Option.bind_eq_some_iff] at h
 obtain ⟨e0,he,h⟩:=h
 have:=checkNode_small he
 split at h
 . simp only [Option.some.injEq,Prod.mk.injEq] at h;omega
 split at h
 . simp only [Option.bind_eq_some_iff,Option.some.injEq,Prod.mk.injEq] at h;obtain ⟨k,hk,rfl,rfl,_⟩:=h;have:=hl k (List.mem_of_head? hk);omega
 simp only [Option.bind_eq_some_iff,Option.pure_def,Option.some.injEq] at h
 obtain ⟨⟨a',S1⟩,ha,h⟩:=h
 have:=full_small (add_small hs ha) h
 omega
theorem find_wf {a:Int} {r:Int} (hs:S.words.length<=1000000) (hl:∀ x ∈ l,-9223372036854775808<=x/\x<=9223372036854775807) (h:S.find a l=some (r,e)) : -9223372036854775808<=r/\r<=9223372036854775807/\0<=e/\e<=8:=by
 unfold Hp.Hs.find at h
 simp only [Option.bind_eq_bind,Option.bind_eq_some_iff] at h
 obtain ⟨e0,he,h⟩:=h
 have:=checkNode_small he
 split at h
 . simp only [Option.some.injEq,Prod.mk.injEq] at h;omega
 split at h
 . simp only [Option.bind_eq_some_iff,Option.some.injEq,Prod.mk.injEq] at h;obtain ⟨k,hk,rfl,rfl⟩:=h;have:=hl k (List.mem_of_head? hk);omega
 simp only [Option.bind_eq_some_iff] at h
 obtain ⟨a',ha,h⟩:=h
 have:=look_small hs ha
 split at h
 . simp only [Option.some.injEq,Prod.mk.injEq] at h;omega
 simp only [Option.some.injEq,Prod.mk.injEq] at h
 omega
set_option maxRecDepth 100000 in
set_option maxHeartbeats 8000000 in
theorem do_make {x:Hp.Act'} (h:ScAt w0 w sb d s p1 k1 p2 k2) (hl1:s.res.length < 1000000) (hl2:s.ats.length < 1000000) (hk:x.kind=2) (hs:SliceAt w p c x.list) (hll:x.list.length<=1000) (ha1 : -9223372036854775808<=x.a) (ha2:x.a<=9223372036854775807) (hr:s.do' x=some s') :
    Calls Tryz.prog 93 #[.pointer (some ⟨sb,0,none⟩),actV x p c f] w (DoPost w0 sb d s'):=by
  unfold Hp.Sc.do' at hr
  rw [if_neg (by omega),if_pos (by omega)] at hr;simp only [hk,if_true] at hr;obtain ⟨kids,hkids⟩:∃ kids,x.list.map (Hp.nameOf s.ats)=kids:=⟨_,rfl⟩
  rw [hkids] at hr;have H:=hZ h;have HS:=hZ hs;have HK:=hZ hkids
  have KB:=hZ (fun k (hm:k ∈ kids)=>(by
   rw [<- hkids] at hm;obtain ⟨a,_,rfl⟩:=List.mem_map.1 hm;exact nameOf_wf h.r2.2 a : -9223372036854775808<=k/\k<=9223372036854775807))
  unfold actV;rw [hk];have H1:=hZ (h.ext (Ext.alloc (Ext.refl w) (.cells #[.int .u8 2,.int .i64 x.a,.slice p x.list.length c,.int .u8 f,.int .i64 x.n] 85)));have HS1:=hZ (hs.ext (Ext.alloc (Ext.refl w) (.cells #[.int .u8 2,.int .i64 x.a,.slice p x.list.length c,.int .u8 f,.int .i64 x.n] 85)));have own:=h.own_lt;have bn:w.heap.size ∉ d.own:=fun hm=>by have:=own _ hm;omega
  have b0:(w.alloc (.cells #[.int .u8 2,.int .i64 x.a,.slice p x.list.length c,.int .u8 f,.int .i64 x.n] 85)).cell? ⟨w.heap.size,0,none⟩=some (.int .u8 2):=by simp [go_sem]
  have b1:(w.alloc (.cells #[.int .u8 2,.int .i64 x.a,.slice p x.list.length c,.int .u8 f,.int .i64 x.n] 85)).cell? ⟨w.heap.size,1,none⟩=some (.int .i64 x.a):=by simp [go_sem]
  have BN:=hZ bn;have zb:=cell_lt b0;clear own bn h hs hkids hk
  by_cases hc:kids.contains 0=true
  . rw [if_pos hc] at hr;simp only [Option.some.injEq] at hr;subst hr;have HC:=hZ hc;clear hc;go_enter Tryz.func93,Tryz.ntmps93
    go_wp2_with (first
     | (go_at_call 143;refine (names_any H1.out (by omega) HS1.out hll).mono ?_;rintro e w2 ⟨q,cq,rfl,RQ,E2⟩;rw [HK.out,HC.out];have N2:=hZ (H1.out.ext E2))
     | (go_at_call 142;refine (note_do N2.out hl1 hl2 (by omega) (by omega) (by omega) (by omega)).mono ?_;rintro e' w4 ⟨rfl,hD⟩))
    go_returns;exact ⟨rfl,hD⟩
  rw [if_neg hc] at hr;simp only [Option.bind_eq_bind,Option.bind_eq_some_iff,Option.some.injEq] at hr;obtain ⟨⟨r,e,S1⟩,hr,rfl⟩:=hr;have HC:=hZ (by simpa using hc:kids.contains 0=false);have bs:=make_wf H.out.small KB.out hr;have HR:=hZ hr;clear hc hr;go_enter Tryz.func93,Tryz.ntmps93;go_upto_region 12 with (go_at_call 143;refine (names_any H1.out (by omega) HS1.out hll).mono ?_;rintro e w2 ⟨q,cq,rfl,RQ,E2⟩;rw [HK.out,HC.out];have N2:=hZ (H1.out.ext E2);have h0:=N2.out.h0;have b0':=(E2.cell zb 0).trans b0;have b1':=(E2.cell zb 1).trans b1;have RQH:=hZ (HK.out ▸ RQ);clear RQ)
  have far:=fun b o (e':q=some ⟨b,o,none⟩) (hm:b ∈ d.own)=>(by
   have h1:=RQH.out.far e';have h2:=H.out.own_lt b hm;simp at h1;omega:False)
  have FAR:=hZ far;clear far
  go_wp2_with fail
  refine Calls.mono (Make_any N2.out.toHAt RQH.out.at_ FAR.out ha1 ha2 HR.out) ?_;rintro e' w3 ⟨rfl,hN⟩;have N3:=hZ (N2.out.turn (g:=d.gw) (cap:=d.cap) hN.but hN.toHAt (.inl rfl));clear hN N2 h0 b0' b1'
  go_wp2_with (go_at_call 142;refine (note_do N3.out hl1 hl2 (by omega) (by omega) (by omega) (by omega)).mono ?_;rintro e' w4 ⟨rfl,hD⟩)
  go_returns;exact ⟨rfl,hD⟩
set_option maxRecDepth 100000 in
set_option maxHeartbeats 8000000 in
theorem do_find {x:Hp.Act'} (h:ScAt w0 w sb d s p1 k1 p2 k2) (hl1:s.res.length < 1000000) (hl2:s.ats.length < 1000000) (hk:x.kind=3) (hs:SliceAt w p c x.list) (hll:x.list.length<=1000) (ha1 : -9223372036854775808<=x.a) (ha2:x.a<=9223372036854775807) (hr:s.do' x=some s') :
    Calls Tryz.prog 93 #[.pointer (some ⟨sb,0,none⟩),actV x p c f] w (DoPost w0 sb d s'):=by
  unfold Hp.Sc.do' at hr
  rw [if_neg (by omega),if_pos (by omega)] at hr;simp only [hk,show ¬ (3:Int)=2 by decide,if_false] at hr;obtain ⟨kids,hkids⟩:∃ kids,x.list.map (Hp.nameOf s.ats)=kids:=⟨_,rfl⟩
  rw [hkids] at hr;have H:=hZ h;have HS:=hZ hs;have HK:=hZ hkids
  have KB:=hZ (fun k (hm:k ∈ kids)=>(by
   rw [<- hkids] at hm;obtain ⟨a,_,rfl⟩:=List.mem_map.1 hm;exact nameOf_wf h.r2.2 a : -9223372036854775808<=k/\k<=9223372036854775807))
  unfold actV;rw [hk];have H1:=hZ (h.ext (Ext.alloc (Ext.refl w) (.cells #[.int .u8 3,.int .i64 x.a,.slice p x.list.length c,.int .u8 f,.int .i64 x.n] 85)));have HS1:=hZ (hs.ext (Ext.alloc (Ext.refl w) (.cells #[.int .u8 3,.int .i64 x.a,.slice p x.list.length c,.int .u8 f,.int .i64 x.n] 85)));have own:=h.own_lt;have bn:w.heap.size ∉ d.own:=fun hm=>by have:=own _ hm;omega
  have b0:(w.alloc (.cells #[.int .u8 3,.int .i64 x.a,.slice p x.list.length c,.int .u8 f,.int .i64 x.n] 85)).cell? ⟨w.heap.size,0,none⟩=some (.int .u8 3):=by simp [go_sem]
  have b1:(w.alloc (.cells #[.int .u8 3,.int .i64 x.a,.slice p x.list.length c,.int .u8 f,.int .i64 x.n] 85)).cell? ⟨w.heap.size,1,none⟩=some (.int .i64 x.a):=by simp [go_sem]
  have BN:=hZ bn;have zb:=cell_lt b0;clear own bn h hs hkids hk
  by_cases hc:kids.contains 0=true
  . rw [if_pos hc] at hr;simp only [Option.some.injEq] at hr;subst hr;have HC:=hZ hc;clear hc;go_enter Tryz.func93,Tryz.ntmps93
    go_wp2_with (first
     | (go_at_call 143;refine (names_any H1.out (by omega) HS1.out hll).mono ?_;rintro e w2 ⟨q,cq,rfl,RQ,E2⟩;rw [HK.out,HC.out];have N2:=hZ (H1.out.ext E2))
     | (go_at_call 142;refine (note_do N2.out hl1 hl2 (by omega) (by omega) (by omega) (by omega)).mono ?_;rintro e' w4 ⟨rfl,hD⟩))
    go_returns;exact ⟨rfl,hD⟩
  rw [if_neg hc] at hr;simp only [Option.bind_eq_bind,Option.bind_eq_some_iff,Option.some.injEq] at hr;obtain ⟨⟨r,e⟩,hr,rfl⟩:=hr;have HC:=hZ (by simpa using hc:kids.contains 0=false);have bs:=find_wf H.out.small KB.out hr;have HR:=hZ hr;clear hc hr;go_enter Tryz.func93,Tryz.ntmps93;go_upto_region 12 with (go_at_call 143;refine (names_any H1.out (by omega) HS1.out hll).mono ?_;rintro e w2 ⟨q,cq,rfl,RQ,E2⟩;rw [HK.out,HC.out];have N2:=hZ (H1.out.ext E2);have h0:=N2.out.h0;have b0':=(E2.cell zb 0).trans b0;have b1':=(E2.cell zb 1).trans b1;have RQH:=hZ (HK.out ▸ RQ);clear RQ)
  have far:=fun b o (e':q=some ⟨b,o,none⟩) (hm:b ∈ d.own)=>(by
   have h1:=RQH.out.far e';have h2:=H.out.own_lt b hm;simp at h1;omega:False)
  have FAR:=hZ far;clear far
  go_wp2_with fail
  refine Calls.mono (Find_any N2.out.toHAt RQH.out.at_ FAR.out ha1 ha2 HR.out) ?_;rintro e' w3 ⟨rfl,E3⟩;have N3:=hZ (N2.out.ext E3);clear N2 h0 b0' b1'
  go_wp2_with (go_at_call 142;refine (note_do N3.out hl1 hl2 (by omega) (by omega) (by omega) (by omega)).mono ?_;rintro e' w4 ⟨rfl,hD⟩)
  go_returns;exact ⟨rfl,hD⟩
theorem hold_small {a:Int} (h:S.hold a=some (e,S')):0<=e/\e<=9:=by
 unfold Hp.Hs.hold at h
 split at h
 . simp only [Option.some.injEq,Prod.mk.injEq] at h;omega
 simp only [Option.bind_eq_bind,Option.bind_eq_some_iff,Option.pure_def,Option.some.injEq,Prod.mk.injEq] at h
 obtain ⟨_,_,_,_,h,_⟩:=h
 omega
theorem drop_small {a:Int} (h:S.drop a=some (e,S')):0<=e/\e<=9:=by
 unfold Hp.Hs.drop at h
 split at h
 . simp only [Option.some.injEq,Prod.mk.injEq] at h;omega
 simp only [Option.bind_eq_bind,Option.bind_eq_some_iff] at h
 obtain ⟨_,_,h⟩:=h
 split at h
 . simp only [Option.some.injEq,Prod.mk.injEq] at h;omega
 simp only [Option.bind_eq_some_iff,Option.pure_def,Option.some.injEq,Prod.mk.injEq] at h
 obtain ⟨_,_,h,_⟩:=h
 omega
set_option maxRecDepth 100000 in
set_option maxHeartbeats 8000000 in
theorem do_hold {x:Hp.Act'} (h:ScAt w0 w sb d s p1 k1 p2 k2) (hl1:s.res.length < 1000000) (hl2:s.ats.length < 1000000) (hk:x.kind=4) (ha1 : -9223372036854775808<=x.a) (ha2:x.a<=9223372036854775807) (hr:s.do' x=some s') :
    Calls Tryz.prog 93 #[.pointer (some ⟨sb,0,none⟩),actV x p c f] w (DoPost w0 sb d s'):=by
  unfold Hp.Sc.do' at hr
  rw [if_neg (by omega),if_neg (by omega),if_pos (by omega)] at hr;obtain ⟨y,hy⟩:∃ y,Hp.nameOf s.ats x.a=y:=⟨_,rfl⟩
  simp only [hk,if_true] at hr;rw [hy] at hr;have by_:=nameOf_wf h.r2.2 x.a;rw [hy] at by_;have H:=hZ h;have HY:=hZ hy;unfold actV;rw [hk];have H1:=hZ (h.ext (Ext.alloc (Ext.refl w) (.cells #[.int .u8 4,.int .i64 x.a,.slice p x.list.length c,.int .u8 f,.int .i64 x.n] 85)));have b0:(w.alloc (.cells #[.int .u8 4,.int .i64 x.a,.slice p x.list.length c,.int .u8 f,.int .i64 x.n] 85)).cell? ⟨w.heap.size,0,none⟩=some (.int .u8 4):=by simp [go_sem]
  have zb:=cell_lt b0;have nm:=name_any (a:=x.a) H1.out (by omega) ha1 ha2;rw [HY.out] at nm;clear h hy hk
  by_cases hc:y=0
  . rw [if_pos hc] at hr;simp only [Option.some.injEq] at hr;subst hr;subst hc;go_enter Tryz.func93,Tryz.ntmps93
    go_wp2_with (first
     | (go_at_call 144;refine nm.mono ?_;rintro e w2 ⟨rfl,E2⟩;have N2:=hZ (H1.out.ext E2))
     | (go_at_call 142;refine (note_do N2.out hl1 hl2 (by omega) (by omega) (by omega) (by omega)).mono ?_;rintro e' w4 ⟨rfl,hD⟩))
    go_returns;exact ⟨rfl,hD⟩
  rw [if_neg hc] at hr;simp only [Option.bind_eq_bind,Option.bind_eq_some_iff,Option.some.injEq] at hr;obtain ⟨⟨e,S1⟩,hr,rfl⟩:=hr;have bs:=hold_small hr;have HR:=hZ hr;have t0:(y != 0)=true:=by simpa using hc
  clear hc hr;go_enter Tryz.func93,Tryz.ntmps93;go_upto_region 21 with (go_at_call 144;refine nm.mono ?_;rintro e' w2 ⟨rfl,E2⟩;have N2:=hZ (H1.out.ext E2);have h0:=N2.out.h0;have b0':=(E2.cell zb 0).trans b0)
  go_wp2_with fail
  refine Calls.mono (Hold_any N2.out.toHAt HR.out by_.1 by_.2) ?_;rintro e' w3 ⟨rfl,hA,hB⟩;have N3:=hZ (N2.out.turn (g:=d.gw) (cap:=d.cap) hB hA (.inl rfl));clear hA hB N2 h0 b0'
  go_wp2_with (go_at_call 142;refine (note_do N3.out hl1 hl2 (by omega) (by omega) (by omega) (by omega)).mono ?_;rintro e' w4 ⟨rfl,hD⟩)
  go_returns;exact ⟨rfl,hD⟩
set_option maxRecDepth 100000 in
set_option maxHeartbeats 8000000 in
theorem do_drop {x:Hp.Act'} (h:ScAt w0 w sb d s p1 k1 p2 k2) (hl1:s.res.length < 1000000) (hl2:s.ats.length < 1000000) (hk:x.kind=5) (ha1 : -9223372036854775808<=x.a) (ha2:x.a<=9223372036854775807) (hr:s.do' x=some s') :
    Calls Tryz.prog 93 #[.pointer (some ⟨sb,0,none⟩),actV x p c f] w (DoPost w0 sb d s'):=by
  unfold Hp.Sc.do' at hr
  rw [if_neg (by omega),if_neg (by omega),if_pos (by omega)] at hr;obtain ⟨y,hy⟩:∃ y,Hp.nameOf s.ats x.a=y:=⟨_,rfl⟩
  simp only [hk,show ¬ (5:Int)=4 by decide,if_false] at hr;rw [hy] at hr;have by_:=nameOf_wf h.r2.2 x.a;rw [hy] at by_;have H:=hZ h;have HY:=hZ hy;unfold actV;rw [hk];have H1:=hZ (h.ext (Ext.alloc (Ext.refl w) (.cells #[.int .u8 5,.int .i64 x.a,.slice p x.list.length c,.int .u8 f,.int .i64 x.n] 85)));have b0:(w.alloc (.cells #[.int .u8 5,.int .i64 x.a,.slice p x.list.length c,.int .u8 f,.int .i64 x.n] 85)).cell? ⟨w.heap.size,0,none⟩=some (.int .u8 5):=by simp [go_sem]
  have zb:=cell_lt b0;have nm:=name_any (a:=x.a) H1.out (by omega) ha1 ha2;rw [HY.out] at nm;clear h hy hk
  by_cases hc:y=0
  . rw [if_pos hc] at hr;simp only [Option.some.injEq] at hr;subst hr;subst hc;go_enter Tryz.func93,Tryz.ntmps93
    go_wp2_with (first
     | (go_at_call 144;refine nm.mono ?_;rintro e w2 ⟨rfl,E2⟩;have N2:=hZ (H1.out.ext E2))
     | (go_at_call 142;refine (note_do N2.out hl1 hl2 (by omega) (by omega) (by omega) (by omega)).mono ?_;rintro e' w4 ⟨rfl,hD⟩))
    go_returns;exact ⟨rfl,hD⟩
  rw [if_neg hc] at hr;simp only [Option.bind_eq_bind,Option.bind_eq_some_iff,Option.some.injEq] at hr;obtain ⟨⟨e,S1⟩,hr,rfl⟩:=hr;have bs:=drop_small hr;have HR:=hZ hr;have t0:(y != 0)=true:=by simpa using hc
  clear hc hr;go_enter Tryz.func93,Tryz.ntmps93;go_upto_region 21 with (go_at_call 144;refine nm.mono ?_;rintro e' w2 ⟨rfl,E2⟩;have N2:=hZ (H1.out.ext E2);have h0:=N2.out.h0;have b0':=(E2.cell zb 0).trans b0)
  go_wp2_with fail
  refine Calls.mono (Drop_any N2.out.toHAt HR.out by_.1 by_.2) ?_;rintro e' w3 ⟨rfl,hA,hB⟩;have N3:=hZ (N2.out.turn (g:=d.gw) (cap:=d.cap) hB hA (.inl rfl));clear hA hB N2 h0 b0'
  go_wp2_with (go_at_call 142;refine (note_do N3.out hl1 hl2 (by omega) (by omega) (by omega) (by omega)).mono ?_;rintro e' w4 ⟨rfl,hD⟩)
  go_returns;exact ⟨rfl,hD⟩
set_option maxRecDepth 100000 in
set_option maxHeartbeats 8000000 in
theorem do_none {x:Hp.Act'} (h:ScAt w0 w sb d s p1 k1 p2 k2) (hl1:s.res.length < 1000000) (hl2:s.ats.length < 1000000) (hk:x.kind < 1 \/ 7 < x.kind) (hr:s.do' x=some s') :
    Calls Tryz.prog 93 #[.pointer (some ⟨sb,0,none⟩),actV x p c f] w (DoPost w0 sb d s'):=by
  unfold Hp.Sc.do' at hr
  rw [if_neg (by omega),if_neg (by omega),if_neg (by omega),if_neg (by omega),if_neg (by omega)] at hr;simp only [Option.some.injEq] at hr;subst hr;unfold actV;obtain ⟨kd,hkd⟩:∃ kd,x.kind=kd:=⟨_,rfl⟩
  rw [hkd] at hk ⊢;have H1:=hZ (h.ext (Ext.alloc (Ext.refl w) (.cells #[.int .u8 kd,.int .i64 x.a,.slice p x.list.length c,.int .u8 f,.int .i64 x.n] 85)));have e1:(kd == 1)=false:=by simp;omega
  have e2:(kd == 2)=false:=by simp;omega
  have e3:(kd == 3)=false:=by simp;omega
  have e4:(kd == 4)=false:=by simp;omega
  have e5:(kd == 5)=false:=by simp;omega
  have e6:(kd == 6)=false:=by simp;omega
  have e7:(kd == 7)=false:=by simp;omega
  clear h hkd;go_enter Tryz.func93,Tryz.ntmps93
  go_wp2_with (go_at_call 142;refine (note_do H1.out hl1 hl2 (by omega) (by omega) (by omega) (by omega)).mono ?_;rintro e' w4 ⟨rfl,hD⟩)
  go_returns;exact ⟨rfl,hD⟩
theorem collect_small (h:HAt w d S) (hr:S.collect=some (m,S')):m<=1000000:=by
 obtain ⟨L,S1,S2,_,hU,_,_,hm⟩:=collect_some hr
 have h1:=h.taken_len
 have h2:=h.small
 have h3:=unlink_taken hU
 have h4:=List.length_filter_le (fun a=>!L.contains a) S1.taken
 rw [h3] at h4
 rw [hm,h3]
 omega
set_option maxRecDepth 100000 in
set_option maxHeartbeats 8000000 in
theorem do_collect {x:Hp.Act'} (h:ScAt w0 w sb d s p1 k1 p2 k2) (hl1:s.res.length < 1000000) (hl2:s.ats.length < 1000000) (hk:x.kind=6) (hr:s.do' x=some s') :
    Calls Tryz.prog 93 #[.pointer (some ⟨sb,0,none⟩),actV x p c f] w (DoPost w0 sb d s'):=by
  unfold Hp.Sc.do' at hr
  rw [if_neg (by omega),if_neg (by omega),if_neg (by omega),if_pos hk] at hr;simp only [Option.bind_eq_bind,Option.bind_eq_some_iff,Option.some.injEq] at hr;obtain ⟨⟨m,S1⟩,hr,rfl⟩:=hr;have bm:=collect_small h.toHAt hr;have HR:=hZ hr;unfold actV;rw [hk];have H1:=hZ (h.ext (Ext.alloc (Ext.refl w) (.cells #[.int .u8 6,.int .i64 x.a,.slice p x.list.length c,.int .u8 f,.int .i64 x.n] 85)));have h0:=H1.out.h0;clear h hk hr;go_enter Tryz.func93,Tryz.ntmps93
  go_wp2_with (first
   | (go_at_call 111;refine (collect_any H1.out.toHAt HR.out).mono ?_;rintro e' w2 ⟨rfl,hA,hB⟩;have N2:=hZ (H1.out.turn (g:=d.gw) (cap:=d.cap) hB hA (.inl rfl));clear hA hB)
   | (go_at_call 145;refine (forget_any N2.out (by simp only;omega)).mono ?_;rintro e' w3 ⟨rfl,hN3⟩;have N3:=hZ hN3;clear hN3)
   | (go_at_call 142;refine (note_do N3.out hl1 (by simp only [Hp.Sc.forget,List.length_map];omega) (by omega) (by omega) (by omega) (by omega)).mono ?_;rintro e' w4 ⟨rfl,hD⟩))
  go_returns;exact ⟨rfl,hD⟩
theorem moved_vals (h:S.moved=some (M,S')) (hs:S.words.length<=1000000):∀ p ∈ M,0<=p.2/\p.2<=1000017:=by
 obtain ⟨Wf,nf,Sx,hmv,_⟩:=moved_some h
 intro p hp
 rcases (moves_spec hmv).2 p hp with h | ⟨_,h2,h3⟩
 . cases h
 simp only [List.length_replicate] at h3
 omega
set_option maxRecDepth 100000 in
set_option maxHeartbeats 8000000 in
theorem do_compact {x:Hp.Act'} (h:ScAt w0 w sb d s p1 k1 p2 k2) (hl1:s.res.length < 1000000) (hl2:s.ats.length < 1000000) (hpos:∀ a ∈ s.ats,0<=a) (hk:x.kind=7) (hr:s.do' x=some s') :
    Calls Tryz.prog 93 #[.pointer (some ⟨sb,0,none⟩),actV x p c f] w (DoPost w0 sb d s'):=by
  unfold Hp.Sc.do' at hr
  rw [if_neg (by omega),if_neg (by omega),if_neg (by omega),if_neg (by omega),if_pos hk] at hr;simp only [Option.bind_eq_bind,Option.bind_eq_some_iff,Option.some.injEq] at hr;obtain ⟨⟨m,S1⟩,hr,⟨M,S2⟩,hm,rfl⟩:=hr;have HR:=hZ hr;have HM:=hZ hm
  have POS:=hZ (fun a (hm:a ∈ (Hp.Sc.forget { s with S:=S1 }).ats)=>(by
   obtain ⟨b,hb,rfl⟩:=List.mem_map.1 hm;have:=hpos b hb
   split <;> omega:(0:Int)<=a))
  have flen:(Hp.Sc.forget { s with S:=S1 }).ats.length=s.ats.length:=by simp [Hp.Sc.forget]
  have flen1:(Hp.Sc.forget { s with S:=S1 }).res=s.res:=rfl;unfold actV;rw [hk];have H1:=hZ (h.ext (Ext.alloc (Ext.refl w) (.cells #[.int .u8 7,.int .i64 x.a,.slice p x.list.length c,.int .u8 f,.int .i64 x.n] 85)));have h0:=H1.out.h0;clear h hk hr hm hpos;obtain ⟨s3,hs3⟩:∃ s3,Hp.Sc.forget { s with S:=S1 } = s3:=⟨_,rfl⟩
  rw [hs3] at POS flen flen1 HM ⊢;have HS3:=hZ hs3;clear hs3;obtain ⟨fm,hfm⟩:∃ fm:Int->Int,(fun a=>if a < 0 then 0 else (getI a.toNat M).getD 0)=fm:=⟨_,rfl⟩
  rw [hfm];have FM:=hZ (fun (k:Nat)=>(by rw [<- hfm];simp;omega:fm k=(getI k M).getD 0));clear hfm;go_enter Tryz.func93,Tryz.ntmps93
  go_upto_region 30 with (first
   | (go_at_call 111;refine (collect_any H1.out.toHAt HR.out).mono ?_;rintro e' w2 ⟨rfl,hA,hB⟩;have N2:=hZ (H1.out.turn (g:=d.gw) (cap:=d.cap) hB hA (.inl rfl));clear hA hB)
   | (go_at_call 145;refine (forget_any N2.out (by simp only;omega)).mono ?_;rintro e' w3 ⟨rfl,hN3⟩;have N3:=hZ (HS3.out ▸ hN3);clear hN3;have h03:=N3.out.h0)
   | (go_at_call 116;refine (move_any N3.out.toHAt HM.out).mono ?_;rintro e' w4 ⟨g,gm,rfl,hA,hM,hB,z1,z2,z3⟩;have N4:=hZ (N3.out.turn (g:=g) (cap:=S2.words.length) hB hA (.inr z1));have MH:=hZ hM;have GN:=hZ (fun b o (e':p2=some ⟨b,o,none⟩)=>(by have:=ScB.rlt N3.out.r2 e';omega:b ≠ gm));have GS:=hZ (fun (e':sb=gm)=>(by have:=N3.out.lt1;omega:False));clear hA hM hB))
  have hMV:=moved_vals HM.out N3.out.small;have MVH:=hZ hMV;obtain ⟨n,hn⟩:∃ n,s3.ats.length=n:=⟨_,rfl⟩
  have HN:=hZ hn;have h24:=N4.out.h2;have le:=N4.out.r2.at_.le;have cap:=N4.out.r2.at_.cap;simp only at h24 le;rw [hn] at h24 le flen;have N5:=hZ (show ScAt w0 w4 sb { d with gw:=g,cap:=S2.words.length } { S:=S2,res:=s3.res,ats:=mapTo fm s3.ats 0 } p1 k1 p2 k2 by rw [mapTo_zero];exact N4.out);clear h0 h03 N2 N3 N4 hMV hn
  go_wp2_with fail
  go_loopg [129] n (fun g' i wr=>∃ j:Nat,j<=n/\n-j<=g'/\i = .int .i64 j/\Hid (ScAt w0 wr sb { d with gw:=g,cap:=S2.words.length } { S:=S2,res:=s3.res,ats:=mapTo fm s3.ats j } p1 k1 p2 k2)/\Hid (MapIAt Tryz.prog wr gm M))
  case atStart=>exact ⟨0,Nat.zero_le _,by omega,rfl,N5,MH⟩
  case round=>
   obtain ⟨j,hj,hg,rfl,N,MM⟩:=hrel;clear N5 MH
   by_cases hlt:j < n
   . obtain ⟨x,hx⟩:=rd_get (l:=s3.ats) (j:=j) (by rw [HN.out];exact hlt);have hr:Hp.rd (mapTo fm s3.ats j) j=some x:=(mapTo_rd (by rw [HN.out];exact hlt)).trans hx;have hx0:=POS.out x (List.mem_of_getElem? hx);obtain ⟨k,rfl⟩:∃ k:Nat,x=k:=⟨x.toNat,by omega⟩
     obtain ⟨b,hp,hb⟩:=N.out.r2.ptr (by simp only [mapTo_len];rw [HN.out];omega);obtain ⟨b',o',hp',hb',hc⟩:=N.out.r2.at_.cells (by simp only [mapTo_len];rw [HN.out];omega);rw [hp] at hp'
     cases hp'
     have gx:=hc j _ hr;rw [Nat.zero_add] at gx;have bx:=N.out.r2.2 _ (List.mem_of_getElem? hr);have h2:=N.out.h2;simp only [mapTo_len] at h2;rw [HN.out] at h2;have HX:=hZ hx;have fb:wr.frozen? ⟨b,j,none⟩=false:=by
      rcases N.out.r2.1.2 with ⟨e,_⟩ | ⟨g',cap',cur,e,_,hgb,_⟩
      . injection e with e1
        rw [hp] at e1
        cases e1
      injection e with e1
      rw [hp] at e1
      cases e1
      simp [World.frozen?,hgb]
     have tk:decide ((j:Int) < (n:Int))=true:=by simpa using (by omega:(j:Int) < (n:Int))
     have vb:=getD_small (k:=k) MVH.out;have zs:=N.out.lt1;clear hx hr hc hx0;subst hp;have bgm:=GN.out b 0 rfl;go_upto_region 33 with (fail)
     clear gx;refine wp_region_any (by kernel_rfl) ?_;have pr37a:=fun u_ (h_:Ext wr u_)=>(h_.cell zs 2).trans h2
     have pr37b:=fun u_ (h_:Ext wr u_)=>(MM.out.ext h_).look (t:=119) Tryz.underlying3 Tryz.underlying119 (Tryz.zeroValue3 _) (k:=k) (by omega)
     refine wpAny_to_X (S:=fun W=>Ext wr W) (R:=Ext) 8 8 Ext.refl ?_ ?_ (by rfl)
     . exact Ext.drew exx
     refine' tkY 0 ?_;refine' tkY 1 ?_;refine' tkY 2 ?_;refine' tkY 3 ?_;refine' tkY 4 ?_;refine' tkY 5 ?_;refine' tkY 6 ?_;refine' tkY 7 ?_;refine wpAnyX_done (by kernel_rfl) ?_;intro wd _ Ewd;clear pr37a pr37b;simp only [List.drop_succ_cons,List.drop_zero];have ND:=hZ (N.out.ext Ewd);have fd:=(Ewd.frozen hb j).trans fb;have gd:∃ y,wd.cell? ⟨b,j,none⟩=some y:=by
      obtain ⟨y,hy⟩:=rd_get (l:=mapTo fm s3.ats j) (j:=j) (by rw [mapTo_len,HN.out];exact hlt);obtain ⟨b',o',hp',hb',hc⟩:=ND.out.r2.at_.cells (by simp only [mapTo_len];rw [HN.out];omega)
      cases hp'
      have:=hc j _ hy;rw [Nat.zero_add] at this;exact ⟨_,this⟩
     obtain ⟨y,gy⟩:=gd;have N6:=hZ (ND.out.setAt rfl (mapTo_step HX.out) (by rw [FM.out];omega) (by rw [FM.out];omega));have MM6:=hZ ((MM.out.ext Ewd).but ((But.refl [b] _).setCell (p:=⟨b,j,none⟩) (.inl (by simp)) (.int .i64 (fm (k:Int)))) (by simp;exact fun e=>bgm e.symm));have FK:=FM.out k;rw [FK] at N6 MM6;clear FK fb h2 N ND
     go_wp2_with fail
     go_roundg (n-(j+1))
     case measure=>omega
     case rel=>exact ⟨j+1,by omega,Nat.le_refl _,by go_num,N6,MM6⟩
   have:j=n:=by omega
   subst this;have NF:=hZ (show ScAt w0 wr sb { d with gw:=g,cap:=S2.words.length } { S:=S2,res:=s3.res,ats:=s3.ats.map fm } p1 k1 p2 k2 by
    have:=N.out;rw [<- HN.out,mapTo_all] at this;exact this)
   clear N
   go_wp2_with (go_at_call 142;refine (note_do NF.out (by rw [flen1];exact hl1) (by simp only [List.length_map];rw [HN.out];omega) (by omega) (by omega) (by omega) (by omega)).mono ?_;rintro e' w9 ⟨rfl,hD⟩)
   go_returns;exact ⟨rfl,hD⟩
structure ActOk (x:Hp.Act') (f:Nat):Prop where
 k0:0<=x.kind
 fault:x.fault=f
 f2:f < 256
 n1 : -9223372036854775808<=x.n
 n2:x.n<=9223372036854775807
 a1 : -9223372036854775808<=x.a
 a2:x.a<=9223372036854775807
 len:x.list.length<=1000
theorem do_any {x:Hp.Act'} (h:ScAt w0 w sb d s p1 k1 p2 k2) (hl1:s.res.length < 1000000) (hl2:s.ats.length < 1000000) (hpos:∀ a ∈ s.ats,0<=a) (ok:ActOk x f) (hs:SliceAt w p c x.list) (hr:s.do' x=some s') :
    Calls Tryz.prog 93 #[.pointer (some ⟨sb,0,none⟩),actV x p c f] w (DoPost w0 sb d s'):=by
  have hk:=ok.k0
  by_cases k1:x.kind=1
  . exact do_end h hl1 hl2 k1 ok.fault ok.f2 ok.n1 ok.n2 hr
  by_cases k2:x.kind=2
  . exact do_make h hl1 hl2 k2 hs ok.len ok.a1 ok.a2 hr
  by_cases k3:x.kind=3
  . exact do_find h hl1 hl2 k3 hs ok.len ok.a1 ok.a2 hr
  by_cases k4:x.kind=4
  . exact do_hold h hl1 hl2 k4 ok.a1 ok.a2 hr
  by_cases k5:x.kind=5
  . exact do_drop h hl1 hl2 k5 ok.a1 ok.a2 hr
  by_cases k6:x.kind=6
  . exact do_collect h hl1 hl2 k6 hr
  by_cases k7:x.kind=7
  . exact do_compact h hl1 hl2 hpos k7 hr
  exact do_none h hl1 hl2 (by omega) hr
theorem check_has {a:Int} (h:S.checkNode a l=some 0):∀ k ∈ l,0<=k:=by
 unfold Hp.Hs.checkNode at h
 split at h
 . cases h
 simp only [Option.bind_eq_bind,Option.bind_eq_some_iff] at h
 obtain ⟨v,_,h⟩:=h
 split at h
 . cases h
 split at h
 . cases h
 rename_i _ hn
 intro k hk
 have:S.has k=true:=by
  have h2:l.all S.has=true:=by simpa using hn
  exact List.all_eq_true.1 h2 k hk
 unfold Hp.Hs.has at this
 simp only [Bool.and_eq_true,decide_eq_true_eq] at this
 exact this.1
theorem make_pos {a:Int} {r:Int} (h:S.make a l=some (r,e,S')):0<=r:=by
 unfold Hp.Hs.make at h
 simp only [Option.bind_eq_bind,Option.bind_eq_some_iff] at h
 obtain ⟨e0,he,h⟩:=h
 split at h
 . simp only [Option.some.injEq,Prod.mk.injEq] at h;omega
 rename_i h0
 have h0:e0=0:=by omega
 subst h0
 split at h
 . simp only [Option.bind_eq_some_iff,Option.some.injEq,Prod.mk.injEq] at h;obtain ⟨k,hk,rfl,rfl,_⟩:=h;exact check_has he k (List.mem_of_head? hk)
 simp only [Option.bind_eq_some_iff,Option.pure_def,Option.some.injEq] at h
 obtain ⟨⟨a',S1⟩,ha,h⟩:=h
 rw [full_eq] at h
 simp only [Prod.mk.injEq] at h
 omega
theorem find_pos {a:Int} {r:Int} (h:S.find a l=some (r,e)):0<=r:=by
 unfold Hp.Hs.find at h
 simp only [Option.bind_eq_bind,Option.bind_eq_some_iff] at h
 obtain ⟨e0,he,h⟩:=h
 split at h
 . simp only [Option.some.injEq,Prod.mk.injEq] at h;omega
 rename_i h0
 have h0:e0=0:=by omega
 subst h0
 split at h
 . simp only [Option.bind_eq_some_iff,Option.some.injEq,Prod.mk.injEq] at h;obtain ⟨k,hk,rfl,rfl⟩:=h;exact check_has he k (List.mem_of_head? hk)
 simp only [Option.bind_eq_some_iff] at h
 obtain ⟨a',ha,h⟩:=h
 split at h
 . simp only [Option.some.injEq,Prod.mk.injEq] at h;omega
 simp only [Option.some.injEq,Prod.mk.injEq] at h
 omega
theorem end_pos {f n r:Int} (h:S.end' f n=some (r,e,S')):0<=r:=by
 unfold Hp.Hs.end' at h
 split at h
 . simp only [Option.some.injEq,Prod.mk.injEq] at h;omega
 simp only [Option.bind_eq_bind,Option.bind_eq_some_iff,Option.pure_def,Option.some.injEq] at h
 obtain ⟨⟨a,S1⟩,ha,h⟩:=h
 rw [full_eq] at h
 simp only [Prod.mk.injEq] at h
 omega
structure ScOk (s:Hp.Sc) (j:Nat):Prop where
 res:s.res.length=j
 ats:s.ats.length=j
 pos:∀ a ∈ s.ats,0<=a
theorem ScOk.note {r:Int} {b:Bool} (h:ScOk s j) (hr:b=true->0<=r):ScOk (s.note r e b) (j+1):=by
 refine ⟨by simp [Hp.Sc.note,h.res],by simp [Hp.Sc.note,h.ats],fun a ha=>?_⟩
 simp only [Hp.Sc.note,List.mem_append,List.mem_singleton] at ha
 rcases ha with ha | rfl
 . exact h.pos a ha
 split
 . omega
 split
 . rename_i hb;exact hr hb
 omega
theorem ScOk.heap (h:ScOk s j) (S:Hp.Hs):ScOk { s with S:=S } j:=⟨h.res,h.ats,h.pos⟩
theorem ScOk.forget (h:ScOk s j):ScOk s.forget j:=by
 refine ⟨h.res,by simp [Hp.Sc.forget,h.ats],fun a ha=>?_⟩
 obtain ⟨b,hb,rfl⟩:=List.mem_map.1 ha
 have:=h.pos b hb
 split <;> omega
theorem ScOk.do_ {x:Hp.Act'} (h:ScOk s j) (hs:s.S.words.length<=1000000 \/ True) (hv:∀ S S':Hp.Hs,∀ M,S.moved=some (M,S') -> ∀ p ∈ M,0<=p.2) (hr:s.do' x=some s'):ScOk s' (j+1):=by
 unfold Hp.Sc.do' at hr
 split at hr
 . simp only [Option.bind_eq_bind,Option.bind_eq_some_iff,Option.some.injEq] at hr;obtain ⟨⟨r,e,S⟩,hr,rfl⟩:=hr;exact (h.heap S).note fun _=>end_pos hr
 split at hr
 . dsimp only at hr
   by_cases hc:(List.map (Hp.nameOf s.ats) x.list).contains 0=true
   . rw [if_pos hc] at hr;simp only [Option.some.injEq] at hr;subst hr;exact h.note (by simp)
   rw [if_neg hc] at hr
   split at hr
   . simp only [Option.bind_eq_bind,Option.bind_eq_some_iff,Option.some.injEq] at hr;obtain ⟨⟨r,e,S⟩,hr,rfl⟩:=hr;exact (h.heap S).note fun _=>make_pos hr
   simp only [Option.bind_eq_bind,Option.bind_eq_some_iff,Option.some.injEq] at hr;obtain ⟨⟨r,e⟩,hr,rfl⟩:=hr;exact h.note fun _=>find_pos hr
 split at hr
 . split at hr
   . simp only [Option.some.injEq] at hr;subst hr;exact h.note (by simp)
   split at hr
   . simp only [Option.bind_eq_bind,Option.bind_eq_some_iff,Option.some.injEq] at hr;obtain ⟨⟨e,S⟩,hr,rfl⟩:=hr;exact (h.heap S).note (by simp)
   simp only [Option.bind_eq_bind,Option.bind_eq_some_iff,Option.some.injEq] at hr;obtain ⟨⟨e,S⟩,hr,rfl⟩:=hr;exact (h.heap S).note (by simp)
 split at hr
 . simp only [Option.bind_eq_bind,Option.bind_eq_some_iff,Option.some.injEq] at hr;obtain ⟨⟨m,S⟩,hr,rfl⟩:=hr;exact ((h.heap S).forget).note (by simp)
 split at hr
 . simp only [Option.bind_eq_bind,Option.bind_eq_some_iff,Option.some.injEq] at hr;obtain ⟨⟨m,S⟩,hr,⟨M,S2⟩,hm,rfl⟩:=hr;have h3:=(h.heap S).forget;refine ScOk.note ⟨h3.res,by simp [h3.ats],fun a ha=>?_⟩ (by simp);obtain ⟨b,hb,rfl⟩:=List.mem_map.1 ha
   split
   . omega
   cases e:getI b.toNat M with
   | none=>simp
   | some v=>simpa using hv _ _ _ hm _ (getI_val e)
 simp only [Option.some.injEq] at hr
 subst hr
 exact h.note (by simp)
theorem moved_pos (h:S.moved=some (M,S')):∀ p ∈ M,0<=p.2:=by
 obtain ⟨Wf,nf,Sx,hmv,_⟩:=moved_some h
 intro p hp
 rcases (moves_spec hmv).2 p hp with h | ⟨_,h2,_⟩
 . cases h
 exact h2
theorem ScOk.do' {x:Hp.Act'} (h:ScOk s j) (hr:s.do' x=some s'):ScOk s' (j+1):=h.do_ (.inr trivial) (fun _ _ _ hm=>moved_pos hm) hr
end Go.Proofs.YtdokmmhjmclmnaaGreat
