/- Part 35 of a proof. -/
import Derived.Test.YtdokmmhjmclmnaaGreatMU20
import Derived.Test.YtdokmmhjmclmnaaGreatMU34
set_option linter.unusedSimpArgs false
set_option linter.unusedVariables false
set_option linter.unusedSectionVars false
set_option linter.unnecessarySimpa false
set_option maxHeartbeats 16000000
set_option maxRecDepth 100000
namespace Go.Proofs.YtdokmmhjmclmnaaGreat
open Go.Proofs.Tryz
variable {W' w w' w0 wb:World} {B a b bx c ca cap ce cn f g i j k lb m n qc:Nat} {choice e t x:Int} {A W fs ks l o z:List Int} {D T Y:List Nat} {p p2 pa pe pn q:Option Addr} {d:Hd} {S S':Hp.Hs} {r:Rd} {L:List Hp.Tl} {M:List (Nat × Int)} {s:Hp.Sc}
open Go.RowKit Go.Maps
namespace Hp
def rdo (S:Hs) (A:List Int) (x:Act'):Option (Int × Int × Int × Hs):=
 if x.kind=1 then do
  let (r,e,S) <- S.end' x.fault x.n
  some (r,r,e,S)
 else if x.kind=2 \/ x.kind=3 then
  if (x.list.map (nameOf A)).contains 0 then some (0,0,7,S) else
  if x.kind=2 then do
   let (r,e,S) <- S.make x.a (x.list.map (nameOf A))
   some (r,r,e,S)
  else do
   let (r,e) <- S.find x.a (x.list.map (nameOf A))
   some (r,r,e,S)
 else if x.kind=4 \/ x.kind=5 then
  if nameOf A x.a=0 then some (0,0,7,S) else
  if x.kind=4 then do
   let (e,S) <- S.hold (nameOf A x.a)
   some (0,0,e,S)
  else do
   let (e,S) <- S.drop (nameOf A x.a)
   some (0,0,e,S)
 else if x.kind=6 \/ x.kind=7 then some (0,0,0,S)
 else some (0,0,7,S)
end Hp
theorem k8b {ch:Nat->List Nat} (h:RW w r S) (hw:Hp.Wf S B L ch) {x:Hp.Act'} (hk:x.kind=1) (hf:x.fault=f) (hf2:f < 256) (hn1 : -9223372036854775808<=x.n) (hn2:x.n<=9223372036854775807)
    {n at_ e0:Int} {S':Hp.Hs} (hr:Hp.rdo S A x=some (n,at_,e0,S')) :
    Calls prog 94 #[.pointer (some ⟨r.rb,0,none⟩),actV x p c f,.slice pa A.length ca] w (C9a r w (.tuple #[.int .i64 n,.int .i64 at_,.int .i64 e0]) S'):=by
  unfold Hp.rdo at hr;rw [H5c hk,hf] at hr;simp only [v9b,s0b,z7b,F1c] at hr;obtain ⟨y,hy,rfl,rfl,rfl,rfl⟩:=hr;have H1:=hZ ((RNow.refl h).ext (Ext.alloc (Ext.refl w) (.cells #[.int .u8 1,.int .i64 x.a,.slice p x.list.length c,.int .u8 f,.int .i64 x.n] 85)));have HW:=hZ hw;have HY:=hZ hy;unfold actV;rw [hk];generalize A.length=na at *;clear h hw hy hk;go_enter func94,ntmps94
  go_wp2_with (go_at_call 112;refine (rEnd H1.out.toRW HW.out hf2 hn1 hn2 HY.out).mono ?_;rintro e w3 ⟨rfl,hN⟩)
  go_returns;exact ⟨rfl,H1.out.trans hN⟩
theorem a1b {ch:Nat->List Nat} (h:RW w r S) (hw:Hp.Wf S B L ch) {x:Hp.Act'} (hk:x.kind=2) (hA:SliceAt w pa ca A) (hs:SliceAt w p c x.list) (hll:x.list.length<=1000) (ha1 : -9223372036854775808<=x.a) (ha2:x.a<=9223372036854775807)
    {n at_ e0:Int} {S':Hp.Hs} (hr:Hp.rdo S A x=some (n,at_,e0,S')) :
    Calls prog 94 #[.pointer (some ⟨r.rb,0,none⟩),actV x p c f,.slice pa A.length ca] w (C9a r w (.tuple #[.int .i64 n,.int .i64 at_,.int .i64 e0]) S'):=by
  unfold Hp.rdo at hr;rw [H4c (by omega),H5c (by omega)] at hr;simp only [hk,H2c] at hr;have HW:=hZ hw;have HR:=hZ hr;have own:=hZ h.D1a;have H1:=hZ ((RNow.refl h).ext (Ext.alloc (Ext.refl w) (.cells #[.int .u8 2,.int .i64 x.a,.slice p x.list.length c,.int .u8 f,.int .i64 x.n] 85)));have HS:=hZ (hs.ext (Ext.alloc (Ext.refl w) (.cells #[.int .u8 2,.int .i64 x.a,.slice p x.list.length c,.int .u8 f,.int .i64 x.n] 85)));have HA:=hZ (hA.ext (Ext.alloc (Ext.refl w) (.cells #[.int .u8 2,.int .i64 x.a,.slice p x.list.length c,.int .u8 f,.int .i64 x.n] 85)));have b0:(w.alloc (.cells #[.int .u8 2,.int .i64 x.a,.slice p x.list.length c,.int .u8 f,.int .i64 x.n] 85)).cell? ⟨w.heap.size,0,none⟩=some (.int .u8 2):=by simp [go_sem]
  have b1:(w.alloc (.cells #[.int .u8 2,.int .i64 x.a,.slice p x.list.length c,.int .u8 f,.int .i64 x.n] 85)).cell? ⟨w.heap.size,1,none⟩=some (.int .i64 x.a):=by simp [go_sem]
  have b2:(w.alloc (.cells #[.int .u8 2,.int .i64 x.a,.slice p x.list.length c,.int .u8 f,.int .i64 x.n] 85)).cell? ⟨w.heap.size,2,none⟩=some (.slice p x.list.length c):=by simp [go_sem]
  unfold actV;rw [hk];have WSZ:=hZ (show w.heap.size<=(w.alloc (.cells #[.int .u8 2,.int .i64 x.a,.slice p x.list.length c,.int .u8 f,.int .i64 x.n] 85)).heap.size from (Ext.alloc (Ext.refl w) _).le);have NWF:=hZ (fun v=>h3a hA.wf v);have sle:=hs.le;have scap:=hs.cap;obtain ⟨m,hm⟩:∃ m,x.list.length=m:=⟨_,rfl⟩
  have EM:=hZ hm;obtain ⟨na,hna⟩:∃ na,A.length=na:=⟨_,rfl⟩
  have NAM:Hid (∀ v W,Ext (w.alloc (.cells #[.int .u8 2,.int .i64 x.a,.slice p x.list.length c,.int .u8 f,.int .i64 x.n] 85)) W->Calls prog 146 #[.slice pa na ca,.int .i64 v] W fun e w'=>e = .returned (.int .i64 (Hp.nameOf A v))/\Ext W w'):=hZ (fun v W hW=>by
   have:=G4b (HA.out.ext hW) v;rw [hna] at this;exact this)
  rw [hm] at sle hll H1 HS HA b0 b1 b2 NAM WSZ ⊢;rw [hna];clear h hw hr hs hA hk hm hna HA;go_enter func94,ntmps94;go_upto_region 7 with fail
  generalize w.alloc (.cells #[.int .u8 2,.int .i64 x.a,.slice p m c,.int .u8 f,.int .i64 x.n] 85)=w1 at H1 HS b0 b1 b2 NAM WSZ ⊢;obtain ⟨bx,hbx⟩:∃ bx,w.heap.size=bx:=⟨_,rfl⟩
  have EBX:=hZ hbx;rw [hbx] at b0 b1 b2 ⊢;have zb:=cell_lt b0;clear hbx
  go_wp2_with fail
  go_loopg [11,12] m (fun g o i wr=>∃ (j:Nat) (p3:Option Addr) (c3:Nat),j<=m/\m-j<=g/\o = .slice p3 ((x.list.take j).map (Hp.nameOf A)).length c3/\i = .int .i64 j/\Hid (((x.list.take j).map (Hp.nameOf A)).contains 0=false)/\Hid (Row wr w1.heap.size p3 c3 ((x.list.take j).map (Hp.nameOf A)))/\Hid (Ext w1 wr))
  case atStart=>exact ⟨0,none,0,G9c _,by omega,by simp,rfl,hZ (by simp),hZ (Row.nil _ _),hZ (Ext.refl _)⟩
  case round=>
   obtain ⟨j,p3,c3,hj,hg,rfl,rfl,NZ,R,E⟩:=hrel;have b0w:=E.out.q b0;have b1w:=E.out.q b1;have b2w:=E.out.q b2;have PL:=hZ (show ((x.list.take j).map (Hp.nameOf A)).length=j by simp [A3c,EM.out];omega)
   by_cases hlt:j < m
   . obtain ⟨v,hv⟩:=A4a (l:=x.list) (j:=j) (by rw [EM.out];exact hlt);obtain ⟨lb,lo2,hlp,hlb,hlc⟩:=HS.out.cells (by rw [EM.out];omega);have gl:=E.out.q (hlc j v hv);have tk:decide ((j:Int) < (m:Int))=true:=dT;have es:(x.list.take (j+1)).map (Hp.nameOf A)=(x.list.take j).map (Hp.nameOf A) ++ [Hp.nameOf A v]:=by
      obtain ⟨hl',rfl⟩:=q5b.1 hv;rw [p5b hl',C5c];rfl
     have hin:Hp.nameOf A v ∈ x.list.map (Hp.nameOf A):=F7c.2 ⟨v,u1b hv,rfl⟩;have NV:=hZ (fun W hW=>NAM.out v W hW);have nwf:=NWF.out v;obtain ⟨y,hy⟩:∃ y,Hp.nameOf A v=y:=⟨_,rfl⟩
     rw [hy] at es hin NV nwf;have ES:=hZ es;obtain ⟨PJ,hPJ⟩:∃ PJ,(x.list.take j).map (Hp.nameOf A)=PJ:=⟨_,rfl⟩
     rw [hPJ] at R PL NZ ES ⊢;clear es hv hlc hy hPJ;subst hlp
     by_cases h0:y=0
     . subst h0;have HR2:=HR.out;rw [H5c (by simpa using hin)] at HR2;simp only [z7b,F1c] at HR2;obtain ⟨rfl,rfl,rfl,rfl⟩:=HR2;clear hin
       go_wp2_with (go_at_call 146;refine m4_ (NV.out _ E.out) fun w4 hb4 hc4 hf4 hs4=>?_)
       go_returns;exact ⟨rfl,H1.out.ext (E.out.trans hb4)⟩
     have t0:(y == 0)=false:=by simpa using h0
     have NZ2:=hZ (show ((x.list.take (j+1)).map (Hp.nameOf A)).contains 0=false by
      rw [ES.out];have:=NZ.out;simp only [List.contains_eq_mem,decide_eq_false_iff_not] at this ⊢;simp only [C4c,w8b];exact fun hm=>hm.elim this (fun e=>h0 e.symm))
     clear hin h0;go_upto_region 13 with (go_at_call 146;refine m4_ (NV.out _ E.out) fun w4 hb4 hc4 hf4 hs4=>?_)
     have E4:=hZ (E.out.trans hb4);have gl4:=(hb4.cell (x4b hlb E.out.le) (lo2+j)).trans gl;have b24:=(hb4.cell (x4b zb E.out.le) 2).trans b2w;have R4:=hZ (R.out.ext hb4);have wsz:w1.heap.size<=w4.heap.size:=E4.out.le;clear gl b0w b1w b2w hc4 hf4 hs4 R E hb4
     go_wp2_with (first
      | (go_at_call 146;refine m4_ (NV.out _ E4.out) fun w5 hb5 hc5 hf5 hs5=>?_;have R5:=hZ ((R4.out.ext hb5).ext (Ext.alloc (Ext.refl _) (.cells #[.int .i64 y] 3)));have E5:=hZ (E4.out.trans hb5))
      | (at_builtin;refine C0a rfl _ _ rfl (y:=y) rfl rfl R5.out (by go_simp) (by omega) (by omega) (by have:=PL.out;omega) (by have:=E5.out.le;simp;omega) ?_;intro g8 c8 x8 hR8 hG8;obtain ⟨row,hgr,hrow⟩:=id hG8;have E8:Ext w1 x8:=M0a (E5.out.alloc _) hgr hrow;have R8H:=hZ hR8))
     go_roundg (m-(j+1))
     case measure=>omega
     case rel=>exact ⟨j+1,some ⟨g8,0,none⟩,c8,by omega,H0c _,by rw [ES.out];simp,by go_num,NZ2,hZ (by rw [ES.out];exact R8H.out),hZ E8⟩
   have:j=m:=by omega
   subst this;have tk:decide ((j:Int) < (j:Int))=false:=dF;have eT:x.list.take j=x.list:=s6b (by rw [EM.out];exact H0c _);rw [eT] at NZ R PL ⊢;have HR2:=HR.out;obtain ⟨KL,hKL⟩:∃ KL,x.list.map (Hp.nameOf A)=KL:=⟨_,rfl⟩
   rw [hKL] at NZ R PL HR2 ⊢;clear hKL;rw [H4c (by rw [NZ.out];simp)] at HR2;simp only [v9b,s0b,z7b,F1c] at HR2;obtain ⟨y,hx,rfl,rfl,rfl,rfl⟩:=HR2;have HX:=hZ hx;have RH:=hZ R.out.at_;have FAR:=hZ (show ∀ b o,p3=some ⟨b,o,none⟩->b ∉ r.own from fun b o e hm=>by
    have h1:=R.out.far e;have h2:=own.out b hm;have:=WSZ.out;omega)
   have N1:=hZ (H1.out.ext E.out);clear hx R
   go_wp2_with (go_at_call 114;refine (rMake N1.out.toRW HW.out RH.out FAR.out ha1 ha2 HX.out).mono ?_;rintro e w3 ⟨rfl,hN⟩)
   go_returns;exact ⟨rfl,N1.out.trans hN⟩
theorem a8b {ch:Nat->List Nat} (h:RW w r S) (hw:Hp.Wf S B L ch) {x:Hp.Act'} (hk:x.kind=3) (hA:SliceAt w pa ca A) (hs:SliceAt w p c x.list) (hll:x.list.length<=1000) (ha1 : -9223372036854775808<=x.a) (ha2:x.a<=9223372036854775807)
    {n at_ e0:Int} {S':Hp.Hs} (hr:Hp.rdo S A x=some (n,at_,e0,S')) :
    Calls prog 94 #[.pointer (some ⟨r.rb,0,none⟩),actV x p c f,.slice pa A.length ca] w (C9a r w (.tuple #[.int .i64 n,.int .i64 at_,.int .i64 e0]) S'):=by
  unfold Hp.rdo at hr;rw [H4c (by omega),H5c (by omega)] at hr;simp only [hk,show ¬ (3:Int)=2 by decide,H1c] at hr;have HW:=hZ hw;have HR:=hZ hr;have own:=hZ h.D1a;have H1:=hZ ((RNow.refl h).ext (Ext.alloc (Ext.refl w) (.cells #[.int .u8 3,.int .i64 x.a,.slice p x.list.length c,.int .u8 f,.int .i64 x.n] 85)));have HS:=hZ (hs.ext (Ext.alloc (Ext.refl w) (.cells #[.int .u8 3,.int .i64 x.a,.slice p x.list.length c,.int .u8 f,.int .i64 x.n] 85)));have HA:=hZ (hA.ext (Ext.alloc (Ext.refl w) (.cells #[.int .u8 3,.int .i64 x.a,.slice p x.list.length c,.int .u8 f,.int .i64 x.n] 85)));have b0:(w.alloc (.cells #[.int .u8 3,.int .i64 x.a,.slice p x.list.length c,.int .u8 f,.int .i64 x.n] 85)).cell? ⟨w.heap.size,0,none⟩=some (.int .u8 3):=by simp [go_sem]
  have b1:(w.alloc (.cells #[.int .u8 3,.int .i64 x.a,.slice p x.list.length c,.int .u8 f,.int .i64 x.n] 85)).cell? ⟨w.heap.size,1,none⟩=some (.int .i64 x.a):=by simp [go_sem]
  have b2:(w.alloc (.cells #[.int .u8 3,.int .i64 x.a,.slice p x.list.length c,.int .u8 f,.int .i64 x.n] 85)).cell? ⟨w.heap.size,2,none⟩=some (.slice p x.list.length c):=by simp [go_sem]
  unfold actV;rw [hk];have WSZ:=hZ (show w.heap.size<=(w.alloc (.cells #[.int .u8 3,.int .i64 x.a,.slice p x.list.length c,.int .u8 f,.int .i64 x.n] 85)).heap.size from (Ext.alloc (Ext.refl w) _).le);have NWF:=hZ (fun v=>h3a hA.wf v);have sle:=hs.le;have scap:=hs.cap;obtain ⟨m,hm⟩:∃ m,x.list.length=m:=⟨_,rfl⟩
  have EM:=hZ hm;obtain ⟨na,hna⟩:∃ na,A.length=na:=⟨_,rfl⟩
  have NAM:Hid (∀ v W,Ext (w.alloc (.cells #[.int .u8 3,.int .i64 x.a,.slice p x.list.length c,.int .u8 f,.int .i64 x.n] 85)) W->Calls prog 146 #[.slice pa na ca,.int .i64 v] W fun e w'=>e = .returned (.int .i64 (Hp.nameOf A v))/\Ext W w'):=hZ (fun v W hW=>by
   have:=G4b (HA.out.ext hW) v;rw [hna] at this;exact this)
  rw [hm] at sle hll H1 HS HA b0 b1 b2 NAM WSZ ⊢;rw [hna];clear h hw hr hs hA hk hm hna HA;go_enter func94,ntmps94;go_upto_region 7 with fail
  generalize w.alloc (.cells #[.int .u8 3,.int .i64 x.a,.slice p m c,.int .u8 f,.int .i64 x.n] 85)=w1 at H1 HS b0 b1 b2 NAM WSZ ⊢;obtain ⟨bx,hbx⟩:∃ bx,w.heap.size=bx:=⟨_,rfl⟩
  have EBX:=hZ hbx;rw [hbx] at b0 b1 b2 ⊢;have zb:=cell_lt b0;clear hbx
  go_wp2_with fail
  go_loopg [11,12] m (fun g o i wr=>∃ (j:Nat) (p3:Option Addr) (c3:Nat),j<=m/\m-j<=g/\o = .slice p3 ((x.list.take j).map (Hp.nameOf A)).length c3/\i = .int .i64 j/\Hid (((x.list.take j).map (Hp.nameOf A)).contains 0=false)/\Hid (Row wr w1.heap.size p3 c3 ((x.list.take j).map (Hp.nameOf A)))/\Hid (Ext w1 wr))
  case atStart=>exact ⟨0,none,0,G9c _,by omega,by simp,rfl,hZ (by simp),hZ (Row.nil _ _),hZ (Ext.refl _)⟩
  case round=>
   obtain ⟨j,p3,c3,hj,hg,rfl,rfl,NZ,R,E⟩:=hrel;have b0w:=E.out.q b0;have b1w:=E.out.q b1;have b2w:=E.out.q b2;have PL:=hZ (show ((x.list.take j).map (Hp.nameOf A)).length=j by simp [A3c,EM.out];omega)
   by_cases hlt:j < m
   . obtain ⟨v,hv⟩:=A4a (l:=x.list) (j:=j) (by rw [EM.out];exact hlt);obtain ⟨lb,lo2,hlp,hlb,hlc⟩:=HS.out.cells (by rw [EM.out];omega);have gl:=E.out.q (hlc j v hv);have tk:decide ((j:Int) < (m:Int))=true:=dT;have es:(x.list.take (j+1)).map (Hp.nameOf A)=(x.list.take j).map (Hp.nameOf A) ++ [Hp.nameOf A v]:=by
      obtain ⟨hl',rfl⟩:=q5b.1 hv;rw [p5b hl',C5c];rfl
     have hin:Hp.nameOf A v ∈ x.list.map (Hp.nameOf A):=F7c.2 ⟨v,u1b hv,rfl⟩;have NV:=hZ (fun W hW=>NAM.out v W hW);have nwf:=NWF.out v;obtain ⟨y,hy⟩:∃ y,Hp.nameOf A v=y:=⟨_,rfl⟩
     rw [hy] at es hin NV nwf;have ES:=hZ es;obtain ⟨PJ,hPJ⟩:∃ PJ,(x.list.take j).map (Hp.nameOf A)=PJ:=⟨_,rfl⟩
     rw [hPJ] at R PL NZ ES ⊢;clear es hv hlc hy hPJ;subst hlp
     by_cases h0:y=0
     . subst h0;have HR2:=HR.out;rw [H5c (by simpa using hin)] at HR2;simp only [z7b,F1c] at HR2;obtain ⟨rfl,rfl,rfl,rfl⟩:=HR2;clear hin
       go_wp2_with (go_at_call 146;refine m4_ (NV.out _ E.out) fun w4 hb4 hc4 hf4 hs4=>?_)
       go_returns;exact ⟨rfl,H1.out.ext (E.out.trans hb4)⟩
     have t0:(y == 0)=false:=by simpa using h0
     have NZ2:=hZ (show ((x.list.take (j+1)).map (Hp.nameOf A)).contains 0=false by
      rw [ES.out];have:=NZ.out;simp only [List.contains_eq_mem,decide_eq_false_iff_not] at this ⊢;simp only [C4c,w8b];exact fun hm=>hm.elim this (fun e=>h0 e.symm))
     clear hin h0;go_upto_region 13 with (go_at_call 146;refine m4_ (NV.out _ E.out) fun w4 hb4 hc4 hf4 hs4=>?_)
     have E4:=hZ (E.out.trans hb4);have gl4:=(hb4.cell (x4b hlb E.out.le) (lo2+j)).trans gl;have b24:=(hb4.cell (x4b zb E.out.le) 2).trans b2w;have R4:=hZ (R.out.ext hb4);have wsz:w1.heap.size<=w4.heap.size:=E4.out.le;clear gl b0w b1w b2w hc4 hf4 hs4 R E hb4
     go_wp2_with (first
      | (go_at_call 146;refine m4_ (NV.out _ E4.out) fun w5 hb5 hc5 hf5 hs5=>?_;have R5:=hZ ((R4.out.ext hb5).ext (Ext.alloc (Ext.refl _) (.cells #[.int .i64 y] 3)));have E5:=hZ (E4.out.trans hb5))
      | (at_builtin;refine C0a rfl _ _ rfl (y:=y) rfl rfl R5.out (by go_simp) (by omega) (by omega) (by have:=PL.out;omega) (by have:=E5.out.le;simp;omega) ?_;intro g8 c8 x8 hR8 hG8;obtain ⟨row,hgr,hrow⟩:=id hG8;have E8:Ext w1 x8:=M0a (E5.out.alloc _) hgr hrow;have R8H:=hZ hR8))
     go_roundg (m-(j+1))
     case measure=>omega
     case rel=>exact ⟨j+1,some ⟨g8,0,none⟩,c8,by omega,H0c _,by rw [ES.out];simp,by go_num,NZ2,hZ (by rw [ES.out];exact R8H.out),hZ E8⟩
   have:j=m:=by omega
   subst this;have tk:decide ((j:Int) < (j:Int))=false:=dF;have eT:x.list.take j=x.list:=s6b (by rw [EM.out];exact H0c _);rw [eT] at NZ R PL ⊢;have HR2:=HR.out;obtain ⟨KL,hKL⟩:∃ KL,x.list.map (Hp.nameOf A)=KL:=⟨_,rfl⟩
   rw [hKL] at NZ R PL HR2 ⊢;clear hKL;rw [H4c (by rw [NZ.out];simp)] at HR2;simp only [v9b,s0b,z7b,F1c] at HR2;obtain ⟨y,hx,rfl,rfl,rfl,rfl⟩:=HR2;have HX:=hZ hx;have RH:=hZ R.out.at_;have FAR:=hZ (show ∀ b o,p3=some ⟨b,o,none⟩->b ∉ r.own from fun b o e hm=>by
    have h1:=R.out.far e;have h2:=own.out b hm;have:=WSZ.out;omega)
   have N1:=hZ (H1.out.ext E.out);clear hx R
   go_wp2_with (go_at_call 147;refine (rFind N1.out.toRW.at_ HW.out RH.out ha1 ha2 HX.out).mono ?_;rintro e w3 ⟨rfl,hN⟩)
   go_returns;exact ⟨rfl,N1.out.ext hN⟩
theorem Z5b {ch:Nat->List Nat} (h:RW w r S) (hw:Hp.Wf S B L ch) {x:Hp.Act'} (hk:x.kind=4) (hA:SliceAt w pa ca A)
    {n at_ e0:Int} {S':Hp.Hs} (hr:Hp.rdo S A x=some (n,at_,e0,S')) :
    Calls prog 94 #[.pointer (some ⟨r.rb,0,none⟩),actV x p c f,.slice pa A.length ca] w (C9a r w (.tuple #[.int .i64 n,.int .i64 at_,.int .i64 e0]) S'):=by
  unfold Hp.rdo at hr;rw [H4c (by omega),H4c (by omega),H5c (by omega)] at hr;simp only [hk,H2c] at hr;have H1:=hZ ((RNow.refl h).ext (Ext.alloc (Ext.refl w) (.cells #[.int .u8 4,.int .i64 x.a,.slice p x.list.length c,.int .u8 f,.int .i64 x.n] 85)));have b0:(w.alloc (.cells #[.int .u8 4,.int .i64 x.a,.slice p x.list.length c,.int .u8 f,.int .i64 x.n] 85)).cell? ⟨w.heap.size,0,none⟩=some (.int .u8 4):=by simp [go_sem]
  have zb:=cell_lt b0;have NM:=hZ (G4b (hA.ext (Ext.alloc (Ext.refl w) (.cells #[.int .u8 4,.int .i64 x.a,.slice p x.list.length c,.int .u8 f,.int .i64 x.n] 85))) x.a);have HW:=hZ hw;unfold actV;rw [hk];obtain ⟨y,hy⟩:∃ y,Hp.nameOf A x.a=y:=⟨_,rfl⟩
  rw [hy] at hr NM;obtain ⟨na,hna⟩:∃ na,A.length=na:=⟨_,rfl⟩
  rw [hna] at NM ⊢;clear h hw hk hA hy hna
  by_cases h0:y=0
  . subst h0;rw [H5c rfl] at hr;simp only [z7b,F1c] at hr;obtain ⟨rfl,rfl,rfl,rfl⟩:=hr;go_enter func94,ntmps94
    go_wp2_with (go_at_call 146;refine NM.out.mono ?_;rintro e w2 ⟨rfl,E2⟩;have b0':=E2.q b0)
    go_returns;exact ⟨rfl,H1.out.ext E2⟩
  rw [H4c h0] at hr;simp only [v9b,s0b,z7b,F1c] at hr;obtain ⟨y2,hy2,rfl,rfl,rfl,rfl⟩:=hr;have HY:=hZ hy2;have t0:(y == 0)=false:=by simpa using h0
  clear hy2 h0;go_enter func94,ntmps94
  go_wp2_with (first
   | (go_at_call 146;refine NM.out.mono ?_;rintro e w2 ⟨rfl,E2⟩;have b0':=E2.q b0)
   | (go_at_call 148;refine (rHold (H1.out.ext E2).toRW HW.out HY.out).mono ?_;rintro e w3 ⟨rfl,hN⟩))
  go_returns;exact ⟨rfl,(H1.out.ext E2).trans hN⟩
theorem e6b {ch:Nat->List Nat} (h:RW w r S) (hw:Hp.Wf S B L ch) {x:Hp.Act'} (hk:x.kind=5) (hA:SliceAt w pa ca A)
    {n at_ e0:Int} {S':Hp.Hs} (hr:Hp.rdo S A x=some (n,at_,e0,S')) :
    Calls prog 94 #[.pointer (some ⟨r.rb,0,none⟩),actV x p c f,.slice pa A.length ca] w (C9a r w (.tuple #[.int .i64 n,.int .i64 at_,.int .i64 e0]) S'):=by
  unfold Hp.rdo at hr;rw [H4c (by omega),H4c (by omega),H5c (by omega)] at hr;simp only [hk,show ¬ (5:Int)=4 by decide,H1c] at hr;have H1:=hZ ((RNow.refl h).ext (Ext.alloc (Ext.refl w) (.cells #[.int .u8 5,.int .i64 x.a,.slice p x.list.length c,.int .u8 f,.int .i64 x.n] 85)));have b0:(w.alloc (.cells #[.int .u8 5,.int .i64 x.a,.slice p x.list.length c,.int .u8 f,.int .i64 x.n] 85)).cell? ⟨w.heap.size,0,none⟩=some (.int .u8 5):=by simp [go_sem]
  have zb:=cell_lt b0;have NM:=hZ (G4b (hA.ext (Ext.alloc (Ext.refl w) (.cells #[.int .u8 5,.int .i64 x.a,.slice p x.list.length c,.int .u8 f,.int .i64 x.n] 85))) x.a);have HW:=hZ hw;unfold actV;rw [hk];obtain ⟨y,hy⟩:∃ y,Hp.nameOf A x.a=y:=⟨_,rfl⟩
  rw [hy] at hr NM;obtain ⟨na,hna⟩:∃ na,A.length=na:=⟨_,rfl⟩
  rw [hna] at NM ⊢;clear h hw hk hA hy hna
  by_cases h0:y=0
  . subst h0;rw [H5c rfl] at hr;simp only [z7b,F1c] at hr;obtain ⟨rfl,rfl,rfl,rfl⟩:=hr;go_enter func94,ntmps94
    go_wp2_with (go_at_call 146;refine NM.out.mono ?_;rintro e w2 ⟨rfl,E2⟩;have b0':=E2.q b0)
    go_returns;exact ⟨rfl,H1.out.ext E2⟩
  rw [H4c h0] at hr;simp only [v9b,s0b,z7b,F1c] at hr;obtain ⟨y2,hy2,rfl,rfl,rfl,rfl⟩:=hr;have HY:=hZ hy2;have t0:(y == 0)=false:=by simpa using h0
  clear hy2 h0;go_enter func94,ntmps94
  go_wp2_with (first
   | (go_at_call 146;refine NM.out.mono ?_;rintro e w2 ⟨rfl,E2⟩;have b0':=E2.q b0)
   | (go_at_call 149;refine (rDrop (H1.out.ext E2).toRW HW.out HY.out).mono ?_;rintro e w3 ⟨rfl,hN⟩))
  go_returns;exact ⟨rfl,(H1.out.ext E2).trans hN⟩
theorem f3b (h:RW w r S) {x:Hp.Act'} (hk:x.kind < 1 \/ 5 < x.kind)
    {n at_ e0:Int} {S':Hp.Hs} (hr:Hp.rdo S A x=some (n,at_,e0,S')) :
    Calls prog 94 #[.pointer (some ⟨r.rb,0,none⟩),actV x p c f,.slice pa A.length ca] w (C9a r w (.tuple #[.int .i64 n,.int .i64 at_,.int .i64 e0]) S'):=by
  unfold Hp.rdo at hr;rw [H4c (by omega),H4c (by omega),H4c (by omega)] at hr;unfold actV;obtain ⟨kd,hkd⟩:∃ kd,x.kind=kd:=⟨_,rfl⟩
  rw [hkd] at hk hr ⊢;have H1:=hZ ((RNow.refl h).ext (Ext.alloc (Ext.refl w) (.cells #[.int .u8 kd,.int .i64 x.a,.slice p x.list.length c,.int .u8 f,.int .i64 x.n] 85)));generalize A.length=na at *;have e1:(kd == 1)=false:=by simp;omega
  have e2:(kd == 2)=false:=by simp;omega
  have e3:(kd == 3)=false:=by simp;omega
  have e4:(kd == 4)=false:=by simp;omega
  have e5:(kd == 5)=false:=by simp;omega
  clear h hkd
  by_cases h67:kd=6 \/ kd=7
  . rw [H5c h67] at hr;simp only [z7b,F1c] at hr;obtain ⟨rfl,rfl,rfl,rfl⟩:=hr
    rcases h67 with rfl | rfl
    . clear e1 e2 e3 e4 e5;go_enter func94,ntmps94
      go_wp2_with fail
      go_returns;exact ⟨rfl,H1.out⟩
    clear e1 e2 e3 e4 e5;go_enter func94,ntmps94
    go_wp2_with fail
    go_returns;exact ⟨rfl,H1.out⟩
  rw [H4c h67] at hr;simp only [z7b,F1c] at hr;obtain ⟨rfl,rfl,rfl,rfl⟩:=hr;have e6:(kd == 6)=false:=by simp;omega
  have e7:(kd == 7)=false:=by simp;omega
  clear h67;go_enter func94,ntmps94
  go_wp2_with fail
  go_returns;exact ⟨rfl,H1.out⟩
theorem B8b {ch:Nat->List Nat} (h:RW w r S) (hw:Hp.Wf S B L ch) {x:Hp.Act'} (ok:X8b x f) (hA:SliceAt w pa ca A) (hs:SliceAt w p c x.list)
    {n at_ e0:Int} {S':Hp.Hs} (hr:Hp.rdo S A x=some (n,at_,e0,S')) :
    Calls prog 94 #[.pointer (some ⟨r.rb,0,none⟩),actV x p c f,.slice pa A.length ca] w (C9a r w (.tuple #[.int .i64 n,.int .i64 at_,.int .i64 e0]) S'):=by
  have hk:=ok.k0
  by_cases k1:x.kind=1
  . exact k8b h hw k1 ok.fault ok.f2 ok.n1 ok.n2 hr
  by_cases k2:x.kind=2
  . exact a1b h hw k2 hA hs ok.len ok.a1 ok.a2 hr
  by_cases k3:x.kind=3
  . exact a8b h hw k3 hA hs ok.len ok.a1 ok.a2 hr
  by_cases k4:x.kind=4
  . exact Z5b h hw k4 hA hr
  by_cases k5:x.kind=5
  . exact e6b h hw k5 hA hr
  exact f3b h (by omega) hr
namespace Hp
theorem rdo_of {s1:Sc} {x:Act'} (h:s.do' x=some s1) (h6:x.kind ≠ 6) (h7:x.kind ≠ 7) :
    ∃ n a e S',rdo s.S s.ats x=some (n,a,e,S')/\s1=⟨S',s.res ++ [if e ≠ 0 then -e else n],s.ats ++ [if e ≠ 0 then 0 else a]⟩:=by
  unfold Sc.do' at h
  unfold rdo
  split at h
  . rename_i k1;simp only [v9b,s0b,z7b] at h;obtain ⟨⟨r,e,S'⟩,h1,rfl⟩:=h;refine ⟨r,r,e,S',by rw [H5c k1,h1];rfl,by simp [Sc.note]⟩
  rename_i k1;rw [H4c k1]
  split at h
  . rename_i k2;rw [H5c k2];dsimp only at h
    split at h
    . rename_i hc;rw [H5c hc];simp only [z7b] at h;subst h;exact ⟨0,0,7,s.S,rfl,by simp [Sc.note]⟩
    rename_i hc;rw [H4c hc]
    split at h
    . rename_i k3;rw [H5c k3];simp only [v9b,s0b,z7b] at h;obtain ⟨⟨r,e,S'⟩,h1,rfl⟩:=h;refine ⟨r,r,e,S',by rw [h1];rfl,by simp [Sc.note]⟩
    rename_i k3;rw [H4c k3];simp only [v9b,s0b,z7b] at h;obtain ⟨⟨r,e⟩,h1,rfl⟩:=h;refine ⟨r,r,e,s.S,by rw [h1];rfl,by simp [Sc.note]⟩
  rename_i k2;rw [H4c k2]
  split at h
  . rename_i k4;rw [H5c k4]
    split at h
    . rename_i h0;rw [H5c h0];simp only [z7b] at h;subst h;exact ⟨0,0,7,s.S,rfl,by simp [Sc.note]⟩
    rename_i h0;rw [H4c h0]
    split at h
    . rename_i k5;rw [H5c k5];simp only [v9b,s0b,z7b] at h;obtain ⟨⟨e,S'⟩,h1,rfl⟩:=h;refine ⟨0,0,e,S',by rw [h1];rfl,by simp [Sc.note]⟩
    rename_i k5;rw [H4c k5];simp only [v9b,s0b,z7b] at h;obtain ⟨⟨e,S'⟩,h1,rfl⟩:=h;refine ⟨0,0,e,S',by rw [h1];rfl,by simp [Sc.note]⟩
  rename_i k4;rw [H4c k4,H4c (by omega)]
  first
   | (rw [H4c h6,H4c h7] at h
      simp only [z7b] at h;subst h;exact ⟨0,0,7,s.S,rfl,by simp [Sc.note]⟩)
   | (simp only [z7b] at h
      subst h;exact ⟨0,0,7,s.S,rfl,by simp [Sc.note]⟩)
theorem h7b {x:Act'} (h:x.kind=6 \/ x.kind=7):rdo S A x=some (0,0,0,S):=by
 unfold rdo
 rw [H4c (by omega),H4c (by omega),H4c (by omega),H5c h]
theorem do_six {s1:Sc} {x:Act'} (h:s.do' x=some s1) (h6:x.kind=6):∃ m S',s.S.collect=some (m,S')/\s1=⟨S',s.res ++ [(m:Int)],(s.ats.map fun a=>if S'.has a then a else 0) ++ [0]⟩:=by
 unfold Sc.do' at h
 rw [H4c (by omega),H4c (by omega),H4c (by omega),H5c h6] at h
 simp only [v9b,s0b,z7b] at h
 obtain ⟨⟨m,S'⟩,h1,rfl⟩:=h
 exact ⟨m,S',h1,by simp [Sc.note,Sc.forget]⟩
theorem b5b {s1:Sc} {x:Act'} (h:s.do' x=some s1) (h7:x.kind=7):∃ m S1 M S2,s.S.collect=some (m,S1)/\S1.moved=some (M,S2)/\s1=⟨S2,s.res ++ [0],((s.ats.map fun a=>if S1.has a then a else 0).map fun a=>if a < 0 then 0 else (getI a.toNat M).getD 0) ++ [0]⟩:=by
 unfold Sc.do' at h
 rw [H4c (by omega),H4c (by omega),H4c (by omega),H4c (by omega),H5c h7] at h
 simp only [v9b,s0b,z7b] at h
 obtain ⟨⟨m,S1⟩,h1,⟨M,S2⟩,h2,rfl⟩:=h
 exact ⟨m,S1,M,S2,h1,h2,by simp [Sc.note,Sc.forget]⟩
theorem u2a (hY:∀ a,a ∈ Y ↔ a ∈ S.taken) (x:Int):(K9a Y).contains x=S.has x:=by
 rw [D5c,t3b]
 constructor
 . intro h;obtain ⟨a,ha,rfl⟩:=P6b h;exact v1a ((hY a).1 ha)
 intro h
 obtain ⟨a,rfl,ha⟩:=U1a h
 exact w3a.2 ((hY a).2 ha)
theorem c2b (hY:∀ a,a ∈ Y ↔ a ∈ S.taken) (A:List Int):A.map (N7a (K9a Y) [])=A.map fun a=>if S.has a then a else 0:=by
 refine u7b fun x _=>?_
 unfold N7a
 rw [u2a hY]
 rfl
theorem K7b {S2:Hs} {m:Nat->Nat} {ch:Nat->List Nat} (hw:Wf S B L ch) (hm:Y7b S S2 M m) (hY:∀ a,a ∈ Y ↔ a ∈ S.taken) (A:List Int) :
    A.map (N7a (K9a Y) (E1a m S.taken))=(A.map fun a=>if S.has a then a else 0).map fun a=>if a < 0 then 0 else (getI a.toNat M).getD 0:=by
  rw [F8c];refine u7b fun x _=>?_
  unfold N7a;rw [u2a hY];show _=(if (if S.has x then x else 0) < 0 then 0 else (getI (if S.has x then x else 0).toNat M).getD 0)
  cases hh:S.has x with
  | false=>
   simp only [x6b,H1c];have h0:0 ∉ S.taken:=fun hm=>by
    have:=hw.part hm;omega
   have e:getI (0:Int).toNat M=none:=by
    rw [hm.get];exact H4c h0
   rw [e];rfl
  | true=>
   obtain ⟨a,rfl,ha⟩:=U1a hh;simp only [H2c];rw [H4c (by omega),z5b,hm.get,H5c ha,k8a (K7a hw.up) ha];rfl
theorem z8a {k0:Nat} {ch:Nat->List Nat} (hw:Wf S B L ch) (hT:S.live=some T) (hco:S.collect=some (k0,S')) (a:Nat):a ∈ T ↔ a ∈ S'.taken:=by
 obtain ⟨T',hT',t1,t2,_⟩:=hw.J8b
 rw [hT] at hT'
 cases hT'
 obtain ⟨S1,L1,e,hc,_⟩:=M7a hw hT
 rw [hco] at e
 simp only [z7b,F1c] at e
 obtain ⟨_,rfl⟩:=e
 rw [hc.taken]
 simp only [C0c,t3b]
 exact ⟨fun h=>⟨t2 a h,h⟩,fun h=>h.2⟩
end Hp
open Go.RowKit
theorem U3b {x:Hp.Act'} {n a:Int} (hs:S.words.length<=1000000) (hA:∀ y ∈ A,-9223372036854775808<=y/\y<=9223372036854775807) (h:Hp.rdo S A x=some (n,a,e,S')) :
    (-9223372036854775808<=n/\n<=9223372036854775807)/\(-9223372036854775808<=a/\a<=9223372036854775807)/\0<=e/\e<=9:=by
  have hk:∀ y ∈ x.list.map (Hp.nameOf A),-9223372036854775808<=y/\y<=9223372036854775807:=fun y hy=>by
   obtain ⟨v,_,rfl⟩:=F7c.1 hy;exact h3a hA v
  unfold Hp.rdo at h
  split at h
  . simp only [v9b,s0b,z7b,F1c] at h;obtain ⟨⟨r,e,S1⟩,h1,rfl,rfl,rfl,rfl⟩:=h;have:=i2a hs h1;dsimp only at *;omega
  split at h
  . split at h
    . simp only [z7b,F1c] at h;omega
    split at h
    . simp only [v9b,s0b,z7b,F1c] at h;obtain ⟨⟨r,e,S1⟩,h1,rfl,rfl,rfl,rfl⟩:=h;have:=C1b hs hk h1;dsimp only at *;omega
    simp only [v9b,s0b,z7b,F1c] at h;obtain ⟨⟨r,e⟩,h1,rfl,rfl,rfl,rfl⟩:=h;have:=o3b hs hk h1;dsimp only at *;omega
  split at h
  . split at h
    . simp only [z7b,F1c] at h;omega
    split at h
    . simp only [v9b,s0b,z7b,F1c] at h;obtain ⟨⟨e,S1⟩,h1,rfl,rfl,rfl,rfl⟩:=h;have:=M0b h1;dsimp only at *;omega
    simp only [v9b,s0b,z7b,F1c] at h;obtain ⟨⟨e,S1⟩,h1,rfl,rfl,rfl,rfl⟩:=h;have:=L4b h1;dsimp only at *;omega
  split at h
  . simp only [z7b,F1c] at h;omega
  simp only [z7b,F1c] at h;omega
open Go.RowKit Go.Maps
theorem U7b (h:RAt w r S) (hz:Hp.Fr S.sizes) (ha:a+Hp.wz S.sizes (Hp.ow S.words a)<=S.words.length) (ht:Hp.okTag S.sizes (Hp.ow S.words a)=true) (hhi:S.words.length<=100000) :
    Calls prog 88 #[.pointer (some ⟨r.rb,0,none⟩),.int .i64 a] w (Rt w (.slice (some ⟨r.gb,r.go+(a+4),none⟩) (Hp.wz S.sizes (Hp.ow S.words a)-4) (r.wc-(a+4)))):=by
  have hwz:=Hp.S6a hz ht;have hle:=h.words.le;have hcap:=h.words.cap;have LONG:=hZ (fun W (hW:Ext w W)=>K0a (h.ext hW) hz (a:=a) (by omega) ht);have c2:=h.c2;have hlt:=h.lt;clear h hz ht;generalize S.words.length=n at *;generalize hk:Hp.wz S.sizes (Hp.ow S.words a)=k at *;clear hk;have s1:IntKind.i64.wrap ((a:Int)+4)=(a:Int)+4:=E4c _ (by omega);have s2:IntKind.i64.wrap ((a:Int)+(k:Int))=(a:Int)+(k:Int):=E4c _ (by omega);have s3:(0:Int)<=(a:Int)+4:=by omega
  have s4:(a:Int)+4<=(a:Int)+(k:Int):=by omega
  have s5:(a:Int)+(k:Int)<=(r.wc:Int):=by omega
  have s6:((a:Int)+4).toNat=a+4:=by omega
  have s7:((a:Int)+(k:Int)).toNat=a+k:=by omega
  have s8:a+k-(a+4)=k-4:=by omega
  have cne:¬ r.wc=a+4:=by omega
  go_enter func88,ntmps88
  go_wp2_with fail
  have pr73a:=Ext.r c2
  refine rg0 w ?_
  refine' tkd 0 ?_;refine' tkd 2 ?_;refine' tkd 4 ?_;refine' tkd 6 ?_;refine' tkL 8 ?_;refine' tkR 9 (v:=.int .i64 k) rfl (Or.inr ⟨by rfl,67,_, ?hx9_1900, ?hy9_1900⟩) ?rest9_1900
  case hx9_1900=>(intro w hSw;go_simp;try with_reducible rfl)
  case hy9_1900=>exact fun w hE=>(LONG.out _ hE).mono (fun _ _ h=>⟨h.1,h.2,Ext.trans hE h.2⟩)
  refine layy ?_;refine' tkd 10 ?_;refine' tkL 12 ?_;refine A0a (by kernel_rfl) ?_ _;intro x1 _ Ex1;clear pr73a;go_wp2;go_returns;exact ⟨rfl,exx⟩
theorem rMerge {Q0:List Hp.Tl} {ch:Nat->List Nat} (h:RW w r { S with words:=W }) (hw:Hp.Wf S B L ch) (hm:Hp.N3a S [] Q0 17 W) :
    Calls prog 150 #[.pointer (some ⟨r.rb,0,none⟩)] w (C9a r w (.tuple #[]) S):=by
  have HW:=hZ hw;have hi:=hw.hi;have lo:=hw.lo;have HZ:=hZ hw.fr.toFr;have hcap:=h.cap;have hle:S.words.length<=r.wc:=by rw [<- hm.len];exact h.le
  have M0:=hZ hm;have N0:=hZ (RNow.refl h);obtain ⟨n,hnn⟩:∃ n,S.words.length=n:=⟨_,rfl⟩
  have EN:=hZ hnn;rw [hnn] at hi lo hle;clear h hm hnn hw;go_enter func150,ntmps150
  go_wp2_with fail
  go_loopg [2] Q0.length (fun g i wr=>∃ (P Q:List Hp.Tl) (a:Nat) (V:List Int),Q.length<=g/\i = .int .i64 a/\a<=n/\Hid (Hp.N3a S P Q a V)/\Hid (RNow w wr r { S with words:=V }))
  case atStart=>exact ⟨[],Q0,17,W,H0c _,rfl,by omega,M0,N0⟩
  case round=>
   obtain ⟨P,Q,a,V,hg,rfl,ha,M,N⟩:=hrel;clear M0 N0;have EV:=hZ (M.out.len.trans EN.out);have c2:=N.out.len EV.out;have z1:=N.out.toRW.lt;have z2:=N.out.words.lt
   cases Q with
   | nil=>
    obtain ⟨ea,eP,near⟩:=M.out.near HW.out;have ea:a=n:=ea.trans EN.out;have LK:=hZ (n9b (S:=S) (W:=V) N.out.toRW HW.out near);subst ea;have tk:decide ((a:Int) < (a:Int))=false:=dF
    go_wp2_with (go_at_call 152;refine LK.out.mono ?_;rintro e w7 ⟨rfl,hN7⟩)
    go_returns;exact ⟨rfl,N.out.trans hN7⟩
   | cons t Q=>
    obtain ⟨q1,q2,q3⟩:=M.out.lay2;have q4:=q3.le;rw [EN.out] at q4;have tk:decide ((a:Int) < (n:Int))=true:=dT;simp only [A5c] at hg
    cases hf:t.fr with
    | false=>
     have htk:=M.out.cell t (by simp) hf;have hat:t.a ∈ S.taken:=by rw [<- M.out.ads];exact Hp.B4a.2 ⟨t,by simp,hf,rfl⟩
     have e0:=M.out.cells t.a hat 0 (by have:=HW.out.part hat;omega);rw [G0c] at e0;rw [q1] at htk hat e0;have hot:=HW.out.cells.tags a hat;have hto:=HW.out.W0a hat;have LONG:=hZ (fun W (hW:Ext wr W)=>K0a (N.out.toRW.at_.ext hW) HZ.out (a:=a) (by show a < V.length;rw [EV.out];omega) (by show Hp.okTag S.sizes (Hp.ow V a)=true;rw [e0];exact hot));have LONG2:Hid (∀ W,Ext wr W->Calls prog 67 #[.pointer (some ⟨r.rb,0,none⟩),.int .i64 a] W fun e w'=>e = .returned (.int .i64 (t.k:Int))/\Ext W w'):=hZ (fun W hW=>by
      have:=LONG.out W hW;rw [show Hp.wz ({ S with words:=V }:Hp.Hs).sizes (Hp.ow ({ S with words:=V }:Hp.Hs).words a)=t.k by rw [htk];show Hp.wz S.sizes (Hp.ow V a)=_;rw [e0]] at this;exact this)
     have gx:=N.out.word (j:=a) (x:=Hp.ow V a) (by rw [EV.out];omega) rfl;have t0:(Hp.ow V a == 0)=false:=by rw [e0];simp;omega
     have M2:=hZ (M.out.pass (t:=t) (by rw [hf];simp));have an:a < n:=by omega
     clear htk hat e0 hot hto LONG q1 q3 hf;generalize Hp.ow V a=x at *
     go_wp2_with (go_at_call 67;refine m4_ (LONG2.out _ (exx)) fun w1 hb1 hc1 hf1 hs1=>?_;have c2':=hb1.q c2;have gx':=hb1.q gx)
     go_roundg Q.length
     case measure=>omega
     case rel=>exact ⟨P ++ [t],Q,a+t.k,V,H0c _,by go_num,by omega,M2,hZ (N.out.ext hb1)⟩
    | true=>
     have hfr:=M.out.free t (by simp) hf;rw [q1] at hfr;have LONG:=hZ (fun W (hW:Ext wr W)=>d3a (N.out.toRW.at_.ext hW) (a:=a) (k:=t.k) (by show a+1 < V.length;rw [EV.out];omega) hfr.1 hfr.2);have gx:=N.out.word (j:=a) (by rw [EV.out];omega) hfr.1;have an:a < n:=by omega
     cases Q with
     | nil=>
      have en:a+t.k=n:=by have:=q3;rw [q1] at *;exact (show a+t.k=S.words.length from this).trans EN.out
      have M2:=hZ (M.out.pass (t:=t) (by simp [Hp.hdF]));have t1:decide ((a:Int)+(t.k:Int) < (n:Int))=false:=dF;clear hfr q1 q3 hf
      go_wp2_with (go_at_call 67;refine m4_ (LONG.out _ (exx)) fun w1 hb1 hc1 hf1 hs1=>?_;have c2':=hb1.q c2;have gx':=hb1.q gx)
      go_roundg 0
      case measure=>omega
      case rel=>exact ⟨P ++ [t],[],a+t.k,V,H0c _,by go_num,by omega,M2,hZ (N.out.ext hb1)⟩
     | cons u Q=>
      obtain ⟨p1,p2,p3⟩:=q3;have p4:=p3.le;rw [EN.out] at p4;have t1:decide ((a:Int)+(t.k:Int) < (n:Int))=true:=dT;obtain ⟨y1,y2,y3,y4⟩:IntKind.i64.wrap (((a:Nat):Int)+((t.k:Nat):Int))=((a:Nat):Int)+((t.k:Nat):Int)/\(0:Int)<=((a:Nat):Int)+((t.k:Nat):Int)/\((a:Nat):Int)+((t.k:Nat):Int) < ((n:Nat):Int)/\(((a:Nat):Int)+((t.k:Nat):Int)).toNat=a+t.k:=⟨E4c _ (by omega),by omega,by omega,by omega⟩
      cases hu:u.fr with
      | false=>
       have hat:u.a ∈ S.taken:=by rw [<- M.out.ads];exact Hp.B4a.2 ⟨u,by simp,hu,rfl⟩
       have e0:=M.out.cells u.a hat 0 (by have:=HW.out.part hat;omega);rw [G0c] at e0;have hto:=HW.out.W0a hat;rw [p1] at e0 hto;have gy:=N.out.word (j:=a+t.k) (x:=Hp.ow V (a+t.k)) (by rw [EV.out];omega) rfl;have t0:(Hp.ow V (a+t.k) == 0)=false:=by rw [e0];simp;omega
       have M2:=hZ (M.out.pass (t:=t) (by simp [Hp.hdF,hu]));clear hat e0 hto q1 hf hfr hu p3;generalize Hp.ow V (a+t.k)=x at *
       go_wp2_with (go_at_call 67;refine m4_ (LONG.out _ (exx)) fun w1 hb1 hc1 hf1 hs1=>?_;have c2':=hb1.q c2;have gx':=hb1.q gx;have gy':=hb1.q gy)
       go_roundg (u :: Q).length
       case measure=>simp only [A5c] at *;omega
       case rel=>exact ⟨P ++ [t],u :: Q,a+t.k,V,H0c _,by go_num,by omega,M2,hZ (N.out.ext hb1)⟩
      | true=>
       have J:=hZ (M.out.join HW.out hf hu);have gy:=N.out.word (j:=a+t.k) (by rw [EV.out];omega) J.out.2.2.1;have gk:=N.out.word (j:=a+1) J.out.1 J.out.2.1;have gu:=N.out.word (j:=a+t.k+1) (by rw [EV.out];omega) J.out.2.2.2.1;clear q1 hf hfr hu p3;go_upto_region 4 with (go_at_call 67;refine m4_ (LONG.out _ (exx)) fun w1 hb1 hc1 hf1 hs1=>?_;have c2':=hb1.q c2;have gx':=hb1.q gx;have gy':=hb1.q gy)
       have N1:=hZ (N.out.ext hb1);have gk1:=hb1.q gk;have gu1:=hb1.q gu;have za:=x4b z2 hb1.le;have zb:=x4b z1 hb1.le;obtain ⟨q1,q2,q3,q4⟩:IntKind.i64.wrap (((a:Nat):Int)+1)=((a:Nat):Int)+1/\(0:Int)<=((a:Nat):Int)+1/\((a:Nat):Int)+1 < ((n:Nat):Int)/\(((a:Nat):Int)+1).toNat=a+1:=⟨E4c _ (by omega),by omega,by omega,by omega⟩
       obtain ⟨s1,s2,s3,s4⟩:IntKind.i64.wrap (((a:Nat):Int)+((t.k:Nat):Int)+1)=((a:Nat):Int)+((t.k:Nat):Int)+1/\(0:Int)<=((a:Nat):Int)+((t.k:Nat):Int)+1/\((a:Nat):Int)+((t.k:Nat):Int)+1 < ((n:Nat):Int)/\(((a:Nat):Int)+((t.k:Nat):Int)+1).toNat=a+t.k+1:=⟨E4c _ (by omega),by omega,by omega,by omega⟩
       have ws:IntKind.i64.wrap ((t.k:Int)+(u.k:Int))=(t.k:Int)+(u.k:Int):=E4c _ (by omega);clear gy gk gu gx gx' gy' c2 z1 z2 p1 hc1 hf1 hs1;refine wp_region_still_tail 18 (by kernel_rfl) (by kernel_rfl) ?_;change wpStill _ _ (World.drew w1) (fun a'=>wpList _ _ _ _ a' (World.drew w1)) _ _;have ED:Ext w1 (World.drew w1):=Ext.drew (Ext.refl _);have NY:=hZ (N1.out.ext ED);generalize World.drew w1=wy at NY ED ⊢;have f2:=NY.out.f2;have z1:=NY.out.toRW.lt;have z2:=NY.out.words.lt;have c2x:=ED.q c2';have g1:=ED.q gk1;have g2:=ED.q gu1;have fr:=NY.out.words.froz (a+1);simp only [v1b,E0c,v0b,D9c]
       repeat still_step
       refine wpStill_nil ?_;have N2:=hZ (NY.out.set (j:=a+1) (v:=(t.k:Int)+(u.k:Int)) J.out.1 (by omega) (by omega))
       go_wp2_with fail
       go_roundg (Q.length+1)
       case measure=>simp only [A5c] at *;omega
       case rel=>exact ⟨P,⟨a,t.k+u.k,true⟩ :: Q,a,_,by simp,rfl,by omega,hZ J.out.2.2.2.2,N2⟩
theorem RNow.go0 {V:List Int} (h:RNow w0 w r { S with words:=V }) (hj:j < V.length) (e:Hp.ow V j=x) (ej:j=a+4+k):w.cell? ⟨r.gb,r.go+(a+4)+k,none⟩=some (.int .i64 x):=by
 rw [h.go,G4c,<- ej]
 exact h.word hj e
theorem F1b {k0:Nat} {ch:Nat->List Nat} (h:RW w r S) (hw:Hp.Wf S B L ch) (hco:S.collect=some (k0,S')) :
    Calls prog 96 #[.pointer (some ⟨r.rb,0,none⟩)] w (C9a r w (.int .i64 k0) S'):=by
  obtain ⟨T,hT⟩:=Hp.M5a hw;obtain ⟨W1,W2,S3,L3,hmid,hw3⟩:=Hp.C8b hw hT;have hco2:=hmid.co;rw [hco] at hco2;simp only [z7b,F1c] at hco2;obtain ⟨rfl,rfl⟩:=hco2;have LV:=hZ (k2b h.at_ hw hT);have CELLS:=hZ (fun W (hW:Ext w W)=>c2a (h.at_.ext hW) hw);have H:=hZ (RNow.refl h);have HW:=hZ hw;have HW3:=hZ hw3;have MD:=hZ hmid;have few:=hw.few;have hhi:=hw.hi;have lo:=hw.lo;have hle:=h.le;have hcap:=h.cap;have own:=hZ h.D1a;obtain ⟨n,hn⟩:∃ n,S.words.length=n:=⟨_,rfl⟩
  have EN:=hZ hn;rw [hn] at hle few hhi lo;obtain ⟨m,hm⟩:∃ m,S.taken.length=m:=⟨_,rfl⟩
  have EM:=hZ hm;rw [hm] at few;have hmk:=Hp.j8a hw hmid (W:=W2);obtain ⟨D,hD⟩:∃ D,S.taken.filter (fun a=>!T.contains a)=D:=⟨_,rfl⟩
  have MG:=hZ (fun V (hk:Hp.T3a S W2 D V)=>Hp.j8a hw hmid (W:=V) (by rw [hD];exact hk));have ED:=hZ hD;have hDs:D.Sublist S.taken:=by rw [<- hD];exact List.filter_sublist
  have DS:=hZ hDs;have dlm:D.length<=m:=by rw [<- hm];exact hDs.length_le
  have DM:=hZ (show ∀ x ∈ S.taken,D.contains x = !T.contains x from fun x hx=>by
   rw [<- hD,D5c];simp [hx])
  rw [hD];clear h hw hT hco hmid hw3 hn hm hmk hDs hD;go_enter func96,ntmps96
  go_wp2_with (first
   | (go_at_call 83;refine LV.out.mono ?_;rintro e w1 ⟨Y,p,c,b0,rfl,hb0,hR1,hE1,hY,hYl⟩;clear hYl)
   | (go_at_call 82;refine (CELLS.out _ hE1).mono ?_;rintro e w2 ⟨p2,c2,rfl,hR2,hE2⟩;rw [B8a,EM.out]))
  have SY:=hZ (hR1.at_.ext hE2);have SL:=hZ hR2.at_;have yle:=SY.out.le;have ycap:=SY.out.cap;rw [Hp.C1a] at yle;have lle:=SL.out.le;have lcap:=SL.out.cap;rw [B8a,EM.out] at lle;have YT:=hZ (show ∀ x:Nat,(Hp.K9a Y).contains (x:Int)=T.contains x from fun x=>by
   rw [Hp.P1a,D5c]
   simpa using hY x)
  have N2:=hZ (H.out.ext (hE1.trans hE2));have w2le:w.heap.size<=w2.heap.size:=G5c hE1.le hE2.le;obtain ⟨yl,hyl⟩:∃ yl,Y.length=yl:=⟨_,rfl⟩
  have EY:=hZ hyl;rw [hyl] at yle ⊢;clear hyl;clear hR1 hR2 hE1 hE2 hY LV CELLS hb0
  go_loopg [4,6] m (fun g o i wr=>∃ (j:Nat) (p3:Option Addr) (c3:Nat),j<=m/\m-j<=g/\o = .slice p3 ((S.taken.take j).filter fun a=>!T.contains a).length c3/\i = .int .i64 j/\Hid (Row wr w2.heap.size p3 c3 (Hp.K9a ((S.taken.take j).filter fun a=>!T.contains a)))/\Hid (Ext w2 wr))
  case atStart=>exact ⟨0,none,0,G9c _,by omega,by simp,rfl,hZ (Row.nil _ _),hZ (Ext.refl _)⟩
  case round=>
   obtain ⟨j,p3,c3,hj,hg,rfl,rfl,R,E⟩:=hrel;have dj:((S.taken.take j).filter fun a=>!T.contains a).length<=m:=by
    refine G5c (t4b _ _) ?_;rw [A3c];omega
   have SR:=hZ R.out.at_;have q1:=SR.out.le;have q2:=SR.out.cap;rw [Hp.C1a] at q1
   by_cases hlt:j < m
   . obtain ⟨a,ha,haj,hrd⟩:=L1a (S:=S) (j:=j) (by rw [EM.out];exact hlt);have pa:=HW.out.part ha;rw [EN.out] at pa;obtain ⟨lb,lo2,hlp,hlbb,hlc⟩:=(SL.out.ext E.out).cells (by rw [B8a,EM.out];omega);have gl:=hlc j _ hrd;have an:a < n:=by omega
     have tk:decide ((j:Int) < (m:Int))=true:=dT;obtain ⟨bt,hbt⟩:∃ bt,T.contains a=bt:=⟨_,rfl⟩
     have HAS:=hZ (by
      have:=b3a ((YT.out a).trans hbt) (SY.out.ext E.out);rw [Hp.C1a,EY.out] at this;exact this)
     have ef:=L3a (q:=fun a=>!T.contains a) haj;simp only [hbt] at ef;subst hlp;clear hlc hrd ha haj pa hbt
     cases bt with
     | true=>
      simp only [F2c,x6b,H1c,C7c] at ef;have EF:=hZ ef;clear ef
      go_wp2_with (go_at_call 85;refine m4_ (HAS.out) fun w4 hb4 hc4 hf4 hs4=>?_)
      go_roundg (m-(j+1))
      case measure=>omega
      case rel=>exact ⟨j+1,p3,c3,by omega,H0c _,by rw [EF.out];simp,by go_num,hZ (by rw [EF.out];exact R.out.ext hb4),hZ (E.out.trans hb4)⟩
     | false=>
      simp only [E2c,H2c] at ef;have EF:=hZ ef;clear ef;obtain ⟨DJ,hDJ⟩:∃ DJ,(S.taken.take j).filter (fun a=>!T.contains a)=DJ:=⟨_,rfl⟩
      have EDJ:=hZ hDJ;rw [hDJ] at R dj q1 ⊢;clear hDJ;have zl:=hlbb;go_upto_region 8 with (go_at_call 85;refine m4_ (HAS.out) fun w4 hb4 hc4 hf4 hs4=>?_)
      have E4:=hZ (E.out.trans hb4);have gl2:=hb4.q gl;have zl2:=x4b zl hb4.le;have wsz:w2.heap.size<=w4.heap.size:=E4.out.le;have RA:=hZ ((R.out.ext hb4).ext (Ext.alloc (Ext.refl _) (.cells #[.int .i64 a] 3)));clear hc4 hf4 hs4
      go_wp2_with (at_builtin;rw [<- Hp.C1a DJ];refine C0a rfl _ _ rfl (y:=(a:Int)) rfl rfl RA.out (by go_simp) (by omega) (by omega) (by rw [Hp.C1a];omega) (by simp;omega) ?_;intro g8 c8 x8 hR8 hG8;obtain ⟨row,hgr,hrow⟩:=id hG8;have E8:Ext w2 x8:=M0a (E4.out.alloc _) hgr hrow;have R8H:=hZ hR8)
      go_roundg (m-(j+1))
      case measure=>omega
      case rel=>exact ⟨j+1,some ⟨g8,0,none⟩,c8,by omega,H0c _,by rw [EF.out,EDJ.out];simp [Hp.C1a],by go_num,hZ (by rw [EF.out,EDJ.out,Hp.g8a];exact R8H.out),hZ E8⟩
   have:j=m:=by omega
   subst this;have tk:decide ((j:Int) < (j:Int))=false:=dF;have eD:(S.taken.take j).filter (fun a=>!T.contains a)=D:=by rw [s6b (by rw [EM.out];exact H0c _)];exact ED.out
   rw [eD] at R q1 dj ⊢;obtain ⟨w3,rfl⟩:∃ w3,w3=wr:=⟨_,rfl⟩
   have SD:=hZ R.out.at_;have FD:=hZ (show ∀ b o,p3=some ⟨b,o,none⟩->b ∉ r.own from fun b o e hm=>by
    have:=R.out.far e;have:=own.out b hm;omega)
   have N3:=hZ (RNow.refl ((N2.out.ext E.out).toRW));have TOT:=hZ (N2.out.ext E.out);obtain ⟨dl,hdl⟩:∃ dl,D.length=dl:=⟨_,rfl⟩
   have EDL:=hZ hdl;rw [hdl] at q1 dj ⊢;have SDL:=hZ (show ∀ W,But r.own w3 W->SliceAt W p3 c3 (Hp.K9a D) from fun W k=>SD.out.but k FD.out);clear hdl eD SR SL SY R E N2 YT EY yle ycap lle lcap
   go_wp2_with fail
   go_loopg [7] 16 (fun g i wr=>∃ (k:Nat) (V:List Int),k<=16/\16-k<=g/\i = .int .i64 k/\Hid (Hp.Unl S ch T k V W1)/\Hid (RNow w3 wr r { S with words:=V }))
   case atStart=>exact ⟨0,S.words,by omega,by omega,rfl,hZ (Hp.Unl.start HW.out MD.out),N3⟩
   case round=>
    obtain ⟨k,V,hk,hgk,rfl,U,N⟩:=hrel;clear N3
    by_cases hlt:k < 16
    . obtain ⟨Wk,U1,U2⟩:=U.out.into HW.out hlt;have UI:=hZ U1;have UN:=hZ U2;have tk:decide ((k:Int) < 16)=true:=dT;clear U1 U2 U
      go_wp2_with fail
      go_loopg [8] S.fuel (fun g s wr=>∃ (mm link:Nat) (V:List Int),mm<=g/\s = .int .i64 link/\Hid (Hp.N7b S T mm link V Wk)/\Hid (RNow w3 wr r { S with words:=V }))
      case atStart=>exact ⟨S.fuel,k,V,H0c _,rfl,UI,N⟩
      case round=>
       obtain ⟨mm,link,V2,hmm,rfl,UI2,NV⟩:=hrel;clear UI N;have EV:=hZ (UI2.out.len.trans EN.out);have ll:=UI2.out.lt;rw [EN.out] at ll;have c2:=NV.out.len EV.out;have z1:=NV.out.toRW.lt;have z2:=NV.out.words.lt;obtain ⟨m',rfl,hq⟩:=UI2.out.cases HW.out
       rcases hq with ⟨e0,rfl⟩ | ⟨x,hx,ex,hq⟩
       . have g0:=NV.out.word (j:=link) (by rw [EV.out];exact ll) e0;clear e0
         go_wp2_with fail
         go_roundg (16-(k+1))
         case measure=>omega
         case rel=>exact ⟨k+1,Wk,by omega,H0c _,by go_num,UN,NV⟩
       have g0:=NV.out.word (j:=link) (by rw [EV.out];exact ll) ex;have px:=HW.out.part hx;rw [EN.out] at px;have t0:((x:Int) != 0)=true:=by simp;omega
       have SDW:=hZ (SDL.out _ NV.out.but);obtain ⟨bt,hbt⟩:∃ bt,T.contains x=bt:=⟨_,rfl⟩
       have HAS:=hZ (by
        have:=b3a (Hp.P1a.trans (DM.out x hx)) SDW.out;rw [Hp.C1a,EDL.out,hbt] at this;exact this)
       have xn:x+3 < n:=by omega
       have EX:=hZ ex;clear px hx ex
       rcases hq with ⟨hc,hq⟩ | ⟨hc,hq⟩
       . rw [hbt] at hc;subst hc;have UQ:=hZ hq;simp only [F2c] at HAS;clear hq hbt
         go_wp2_with (go_at_call 85;refine m4_ (HAS.out) fun w4 hb4 hc4 hf4 hs4=>?_)
         go_roundg m'
         case measure=>omega
         case rel=>exact ⟨m',x+3,V2,H0c _,by go_num,UQ,hZ (NV.out.ext hb4)⟩
       rw [hbt] at hc;subst hc;have UQ:=hZ hq;simp only [E2c] at HAS;have b3:=NV.out.toRW.bound (j:=x+3) (by show x+3 < V2.length;rw [EV.out];exact xn);have B3:=hZ b3;clear hq hbt b3;go_upto_region 16 with (go_at_call 85;refine m4_ (HAS.out) fun w4 hb4 hc4 hf4 hs4=>?_)
       have N4:=hZ (NV.out.ext hb4);clear c2 z1 z2 g0 hc4 hf4 hs4;obtain ⟨y1,y2,y3,y4⟩:IntKind.i64.wrap (((x:Nat):Int)+3)=((x:Nat):Int)+3/\(0:Int)<=((x:Nat):Int)+3/\((x:Nat):Int)+3 < ((n:Nat):Int)/\(((x:Nat):Int)+3).toNat=x+3:=⟨E4c _ (by omega),by omega,by omega,by omega⟩
       refine wp_region_still_tail 14 (by kernel_rfl) (by kernel_rfl) ?_;change wpStill _ _ (World.drew w4) (fun a'=>wpList _ _ _ _ a' (World.drew w4)) _ _;have EDW:Ext w4 (World.drew w4):=Ext.drew (Ext.refl _);have NY:=hZ (N4.out.ext EDW);generalize World.drew w4=wy at NY EDW ⊢;have f2:=NY.out.f2;have z1:=NY.out.toRW.lt;have z2:=NY.out.words.lt;have c2:=NY.out.len EV.out;have g0:=NY.out.word (j:=link) (by rw [EV.out];exact ll) EX.out;have g3:=NY.out.word (j:=x+3) (x:=_) (by rw [EV.out];exact xn) rfl;have fr:=NY.out.words.froz link;simp only [v1b,E0c,v0b,D9c]
       repeat still_step
       refine wpStill_nil ?_;have N5:=hZ (NY.out.set (j:=link) (v:=Hp.ow V2 (x+3)) (by show link < V2.length;rw [EV.out];exact ll) B3.out.1 B3.out.2)
       go_wp2_with fail
       go_roundg m'
       case measure=>omega
       case rel=>exact ⟨m',link,_,H0c _,rfl,UQ,N5⟩
    have:k=16:=by omega
    subst this;have tk:decide (((16:Nat):Int) < 16)=false:=dF;have eV:=U.out.fin;subst eV;clear U
    go_wp2_with fail
    go_loopg [10] dl (fun g s wr=>∃ (i:Nat) (V1:List Int),i<=dl/\dl-i<=g/\s = .int .i64 i/\Hid (Hp.Counting S V D i V1)/\Hid (RNow w3 wr r { S with words:=V1 }))
    case atStart=>exact ⟨0,V,G9c _,by omega,rfl,hZ (Hp.Counting.start MD.out),N⟩
    case round=>
     obtain ⟨i,V1,hi,hgi,rfl,CT,NC⟩:=hrel;clear N;have EV:=hZ (CT.out.len.trans EN.out);have c2x:=NC.out.len EV.out;have z1:=NC.out.toRW.lt;have z2:=NC.out.words.lt
     by_cases hlt2:i < dl
     . obtain ⟨a,hai⟩:∃ a,D[i]? = some a:=⟨_,r1b (by rw [EDL.out];exact hlt2)⟩
       have hat:a ∈ S.taken:=DS.out.subset (u1b hai);have pa:=HW.out.part hat;obtain ⟨db,dof,hdp,hdb,hdc⟩:=(SDL.out _ NC.out.but).cells (by rw [Hp.C1a,EDL.out];omega);have gd:=hdc i _ (Hp.p6a hai);have tk:decide ((i:Int) < (dl:Int))=true:=dT;have e0:=CT.out.look HW.out MD.out hat (j:=0) (by omega) (by omega) (by omega);rw [G0c] at e0;have RI:=hZ (c7a NC.out.toRW.at_ (a:=a) (by show a < V1.length;have:=EV.out;have:=EN.out;omega));rw [show Hp.ow ({ S with words:=V1 }:Hp.Hs).words a=Hp.ow S.words a from e0] at RI;have HAT:=hZ hat;have HAI:=hZ hai;subst hdp
       cases he:Hp.B1a (Hp.ow S.words a) with
       | true=>
        have hne:¬ Hp.ow S.words a < 20:=by
         simp only [Hp.B1a,Hp.within,B8c,A1c] at he;omega
        rw [D7c hne] at RI;have CT2:=hZ (Hp.L4a.done hai (by rw [show (Hp.kz (Hp.ow S.words) S.sizes a).length=0 by simp [Hp.kz,he]];exact CT.out.into));clear hdc hat hai pa e0 he hne
        go_wp2_with (go_at_call 87;refine m4_ (RI.out) fun w4 hb4 hc4 hf4 hs4=>?_)
        go_roundg (dl-(i+1))
        case measure=>omega
        case rel=>exact ⟨i+1,V1,by omega,H0c _,by go_num,CT2,hZ (NC.out.ext hb4)⟩
       | false=>
        have hot:=HW.out.cells.tags a hat;have hnd:=Hp.Q2a hot he;have hlt20:Hp.ow S.words a < 20:=by
         simp only [Hp.isNode,Hp.within,B8c,A1c] at hnd;have:=HW.out.fr.few;omega
        rw [E5c hlt20] at RI;have ekz:Hp.kz (Hp.ow S.words) S.sizes a=Hp.fz (Hp.ow S.words) S.sizes a:=by simp [Hp.kz,he]
        obtain ⟨fl,hfl⟩:∃ fl,Hp.wz S.sizes (Hp.ow S.words a)-4=fl:=⟨_,rfl⟩
        have EKL:=hZ (show (Hp.kz (Hp.ow S.words) S.sizes a).length=fl by rw [ekz,Hp.D7a];exact hfl);have EKZ:=hZ ekz;have FLD:Hid (∀ W,Ext wr W->Calls prog 88 #[.pointer (some ⟨r.rb,0,none⟩),.int .i64 a] W fun e w'=>e = .returned (.slice (some ⟨r.gb,r.go+(a+4),none⟩) fl (r.wc-(a+4)))/\Ext W w'):=hZ (fun W hW=>by
         have:=U7b (NC.out.toRW.at_.ext hW) HW.out.fr.toFr (a:=a) (by show a+Hp.wz S.sizes (Hp.ow V1 a)<=V1.length;rw [e0,EV.out,<- EN.out];exact pa.2.2.1) (by show Hp.okTag S.sizes (Hp.ow V1 a)=true;rw [e0];exact hot) (by show V1.length<=100000;rw [EV.out];exact hhi);rw [show Hp.wz ({ S with words:=V1 }:Hp.Hs).sizes (Hp.ow ({ S with words:=V1 }:Hp.Hs).words a)-4=fl by show Hp.wz S.sizes (Hp.ow V1 a)-4=fl;rw [e0];exact hfl] at this;exact this)
        have fl12:fl<=12:=by omega
        have alen:a+4+fl<=n:=by rw [EN.out] at pa;omega
        have WF:=hZ (show Hp.wz S.sizes (Hp.ow S.words a)=fl+4 by omega);clear hdc hat hai pa e0 he hot hnd hlt20 ekz hfl
        go_wp2_with (first
         | (go_at_call 87;refine m4_ (RI.out) fun w4 hb4 hc4 hf4 hs4=>?_;have gd2:=hb4.q gd)
         | (go_at_call 88;refine m4_ (FLD.out _ hb4) fun w5 hb5 hc5 hf5 hs5=>?_))
        have N5:=hZ (NC.out.ext (hb4.trans hb5));clear c2x z1 z2 gd gd2 hb4 hb5 hc4 hf4 hs4 hc5 hf5 hs5 RI FLD
        go_loopg [12] fl (fun g s wr=>∃ (k:Nat) (V2:List Int),k<=fl/\fl-k<=g/\s = .int .i64 k/\Hid (Hp.L4a S V D i a k V2)/\Hid (RNow w3 wr r { S with words:=V2 }))
        case atStart=>exact ⟨0,V1,G9c _,by omega,rfl,hZ CT.out.into,N5⟩
        case round=>
         obtain ⟨kk,V2,hkk,hgk,rfl,CI,NK⟩:=hrel;clear N5 NC CT EV;have EV:=hZ (CI.out.len.trans EN.out)
         by_cases hlt3:kk < fl
         . obtain ⟨x,hx⟩:∃ x,(Hp.kz (Hp.ow S.words) S.sizes a)[kk]? = some x:=⟨_,r1b (by rw [EKL.out];exact hlt3)⟩
           obtain ⟨b,hbt,exb,_⟩:=HW.out.cells.kids a HAT.out x (u1b hx);rw [exb] at hx;have ST:=hZ (CI.out.step HW.out MD.out DS.out HAT.out hx);have ev:Hp.ow V2 (a+(4+kk))=(b:Int):=by
            rw [CI.out.look HW.out MD.out HAT.out (j:=4+kk) (by rw [WF.out];omega) (by omega) (by omega)];rw [EKZ.out] at hx;unfold Hp.fz at hx;rw [Hp.I5a (by rw [WF.out];omega)] at hx;rw [<- F0c];exact D3c hx
           have gk:=NK.out.go0 (a:=a) (k:=kk) (j:=a+(4+kk)) (by rw [EV.out];omega) ev (by omega);have tk2:decide ((kk:Int) < (fl:Int))=true:=dT;have bn:b+1 < n:=by have:=ST.out.2.1;rw [EV.out] at this;exact this
           have VB:=hZ (⟨ST.out.2.2.1,ST.out.2.2.2.1⟩ : -1000000<=Hp.ow V2 (b+1)/\Hp.ow V2 (b+1)<=100000);have wv:IntKind.i64.wrap (Hp.ow V2 (b+1)-1)=Hp.ow V2 (b+1)-1:=E4c _ (by have:=VB.out;omega);have zz:=NK.out.words.lt;obtain ⟨y1,y2,y3,y4⟩:IntKind.i64.wrap (((b:Nat):Int)+1)=((b:Nat):Int)+1/\(0:Int)<=((b:Nat):Int)+1/\((b:Nat):Int)+1 < ((n:Nat):Int)/\(((b:Nat):Int)+1).toNat=b+1:=⟨E4c _ (by omega),by omega,by omega,by omega⟩
           clear hx hbt exb ev
           go_wp2_with fail
           refine wp_region_still_tail 13 (by kernel_rfl) (by kernel_rfl) ?_;change wpStill _ _ (World.drew wr) (fun a'=>wpList _ _ _ _ a' (World.drew wr)) _ _;have EDW:Ext wr (World.drew wr):=Ext.drew (Ext.refl _);have NY:=hZ (NK.out.ext EDW);generalize World.drew wr=wy at NY EDW ⊢;have f2:=NY.out.f2;have z1:=NY.out.toRW.lt;have z2:=NY.out.words.lt;have c2':=NY.out.len EV.out;have gk':=(EDW.cell zz (r.go+(a+4)+kk)).trans gk;have g1:=NY.out.word (j:=b+1) (x:=_) (by rw [EV.out];exact bn) rfl;have fr:=NY.out.words.froz (b+1);simp only [v1b,E0c,v0b,D9c]
           repeat still_step
           refine wpStill_nil ?_;clear y1 y2 y3 y4;have N9:=hZ (NY.out.set (j:=b+1) (v:=Hp.ow V2 (b+1)-1) (by show b+1 < V2.length;rw [EV.out];exact bn) (by have:=VB.out;omega) (by have:=VB.out;omega))
           go_wp2_with fail
           go_roundg (fl-(kk+1))
           case measure=>omega
           case rel=>exact ⟨kk+1,_,by omega,H0c _,by go_num,hZ ST.out.2.2.2.2,N9⟩
         have:kk=fl:=by omega
         subst this;have tk2:decide ((kk:Int) < (kk:Int))=false:=dF;have CT2:=hZ (Hp.L4a.done HAI.out (by rw [EKL.out];exact CI.out))
         go_wp2_with fail
         go_roundg (dl-(i+1))
         case measure=>omega
         case rel=>exact ⟨i+1,V2,by omega,H0c _,by go_num,CT2,NK⟩
     have:i=dl:=by omega
     subst this;have tk:decide ((i:Int) < (i:Int))=false:=dF;have eV2:=(show V1=W2 from by
      have:=CT.out;rw [<- EDL.out,<- ED.out] at this;exact Hp.Counting.fin HW.out MD.out this)
     subst eV2
     go_wp2_with fail
     have DUP:=hZ (show D.Pairwise (· < ·) from HW.out.up.sublist DS.out)
     go_loopg [13] i (fun g s wr=>∃ (q:Nat) (V2:List Int),q<=i/\i-q<=g/\s = .int .i64 q/\Hid (Hp.T3a S V1 (D.take q) V2)/\Hid (RNow w3 wr r { S with words:=V2 }))
     case atStart=>exact ⟨0,V1,G9c _,by omega,rfl,hZ (by rw [E0c];exact Hp.T3a.start S V1),NC⟩
     case round=>
      obtain ⟨q,V2,hq,hgq,rfl,MK,NM⟩:=hrel;have EV1:=hZ EV.out;clear NC c2x z1 z2 EV;have EV:=hZ (MK.out.len.trans EV1.out);have c2x:=NM.out.len EV.out;have z1:=NM.out.toRW.lt;have z2:=NM.out.words.lt
      by_cases hlt3:q < i
      . obtain ⟨a,hai⟩:∃ a,D[q]? = some a:=⟨_,r1b (by rw [EDL.out];exact hlt3)⟩
        have hat:a ∈ S.taken:=DS.out.subset (u1b hai);have pa:=HW.out.part hat;obtain ⟨db,dof,hdp,hdb,hdc⟩:=(SDL.out _ NM.out.but).cells (by rw [Hp.C1a,EDL.out];omega);have gd:=hdc q _ (Hp.p6a hai);have tk:decide ((q:Int) < (i:Int))=true:=dT;have old:∀ b ∈ D.take q,b ≠ a/\b+1 ≠ a/\b ≠ a+1:=fun b hb=>by
         obtain ⟨h1,h2⟩:=Hp.T7b DUP.out hai hb;have hbt:=DS.out.subset h1;have pb:=HW.out.part hbt;have s1:=HW.out.ne (i:=1) (j:=0) hbt hat (by omega) (by omega) (.inr (by omega));exact ⟨by omega,by simpa using s1,by omega⟩
        have e0:Hp.ow V2 a=Hp.ow S.words a:=by
         rw [MK.out.other a fun b hb=>⟨(old b hb).1.symm,(old b hb).2.1.symm⟩];have:=MD.out.k2 a hat 0 (by omega) (by omega) (by omega)
         simpa using this
        obtain ⟨wk,hwk⟩:∃ wk,Hp.wz S.sizes (Hp.ow S.words a)=wk:=⟨_,rfl⟩
        have LONG:Hid (∀ W,Ext wr W->Calls prog 67 #[.pointer (some ⟨r.rb,0,none⟩),.int .i64 a] W fun e w'=>e = .returned (.int .i64 (wk:Int))/\Ext W w'):=hZ (fun W hW=>by
         have:=K0a (NM.out.toRW.at_.ext hW) HW.out.fr.toFr (a:=a) (by show a < V2.length;have:=EV.out;have:=EN.out;omega) (by show Hp.okTag S.sizes (Hp.ow V2 a)=true;rw [e0];exact HW.out.cells.tags a hat);rw [show Hp.wz ({ S with words:=V2 }:Hp.Hs).sizes (Hp.ow ({ S with words:=V2 }:Hp.Hs).words a)=wk by show Hp.wz S.sizes (Hp.ow V2 a)=wk;rw [e0];exact hwk] at this;exact this)
        have MK2:=hZ (by
         have:=MK.out.step (b:=a) (by rw [EV1.out,<- EN.out];omega) old;rw [hwk] at this;exact this)
        have ET:=hZ (show D.take (q+1)=D.take q ++ [a] by
         obtain ⟨hl,rfl⟩:=q5b.1 hai;exact p5b hl)
        have an:a < n:=by rw [EN.out] at pa;omega
        have an1:a+1 < n:=by rw [EN.out] at pa;omega
        have wk16:wk<=16:=by omega
        have DBN:=hZ (show db ∉ r.own from FD.out db dof hdp);clear hdc hat hai pa old e0 hwk;subst hdp;go_upto_region 31 with (go_at_call 67;refine m4_ (LONG.out _ (exx)) fun w4 hb4 hc4 hf4 hs4=>?_)
        have N4:=hZ (NM.out.ext hb4);have gd4:=hb4.q gd;have zd4:=x4b hdb hb4.le;clear c2x z1 z2 gd hb4 hc4 hf4 hs4 LONG;obtain ⟨y1,y2,y3,y4⟩:IntKind.i64.wrap (((a:Nat):Int)+1)=((a:Nat):Int)+1/\(0:Int)<=((a:Nat):Int)+1/\((a:Nat):Int)+1 < ((n:Nat):Int)/\(((a:Nat):Int)+1).toNat=a+1:=⟨E4c _ (by omega),by omega,by omega,by omega⟩
        have c2x:=N4.out.len EV.out;refine R9a (S:=(fun W:World=>W.cell? ⟨r.rb,2,none⟩=some (.slice (some ⟨r.gb,0,none⟩) n r.wc)/\W.cell? ⟨db,dof+q,none⟩=some (.int .i64 a))) (bl_ [19,21] 22) (by kernel_rfl) (by kernel_rfl) (fun _ _ d _ _ h=>by cases d <;> exact h) (by kernel_rfl) (by exact ⟨c2x,gd4⟩) ?_;intro ops hops';have hops:=hZ hops';clear hops';have ND:=hZ (N4.out.ext (Ext.drew (Ext.refl w4)));have gd5:(World.drew w4).cell? ⟨db,dof+q,none⟩=some (.int .i64 a):=gd4;have zd5:db < (World.drew w4).heap.size:=zd4;generalize World.drew w4=wd at ND gd5 zd5 ⊢;clear c2x gd4 zd4 N4;refine' tkS hops ?_;refine' tkS hops ?_;refine' tkS hops ?_;refine' tkS hops ?_ (hy:=by intro w hSw;(obtain ⟨s1,s2⟩:=hSw);go_simp;try with_reducible rfl);refine' tkS hops ?_;refine' tkS hops ?_;refine' tkS hops ?_;refine' tkS hops ?_ (hy:=by intro w hSw;(obtain ⟨s1,s2⟩:=hSw);go_simp;try with_reducible rfl);refine' tkS hops ?_;refine' tkS hops ?_;refine' tkS hops ?_;refine' tkS hops ?_ (hy:=by intro w hSw;(obtain ⟨s1,s2⟩:=hSw);go_simp;try with_reducible rfl);refine' tkS hops ?_;refine' tkS hops ?_;refine' tkS hops ?_;refine' tkS hops ?_ (hy:=by intro w hSw;(obtain ⟨s1,s2⟩:=hSw);go_simp;try with_reducible rfl);refine' tkS hops ?_;refine' tkS hops ?_;refine' tkS hops ?_;have g0:=ND.out.word (j:=a) (x:=_) (by rw [EV.out];exact an) rfl;have fr0:=ND.out.words.froz a;have zg:=ND.out.words.lt;have N5:=hZ (ND.out.set (j:=a) (v:=0) (by show a < V2.length;rw [EV.out];exact an) (by omega) (by omega));refine P2a.put (wd.setCell ⟨r.gb,a,none⟩ (.int .i64 0)) (by first | rfl | (rw [hops.out];rfl)) ?run19 ?hS19 ?next19
        case run19=>go_simp
        case hS19=>exact ⟨N5.out.len (by simp;exact EV.out),(((But.refl r.own wd).setCell (.inl r.Y3a) _).cell zd5 DBN.out _).trans gd5⟩
        refine layy ?_;have gd6:=(((But.refl r.own wd).setCell (p:=⟨r.gb,a,none⟩) (.inl r.Y3a) (.int .i64 0)).cell zd5 DBN.out (dof+q)).trans gd5;have zd6:db < (wd.setCell ⟨r.gb,a,none⟩ (.int .i64 0)).heap.size:=by simp;exact zd5
        generalize wd.setCell ⟨r.gb,a,none⟩ (.int .i64 0)=we at N5 gd6 zd6 ⊢;clear g0 fr0 zg gd5 zd5 ND;refine' tkS hops ?_;have g0:=N5.out.word (j:=a+1) (x:=_) (by simp;rw [EV.out];exact an1) rfl;have fr0:=N5.out.words.froz (a+1);have zg:=N5.out.words.lt;have N6:=hZ (N5.out.set (j:=a+1) (v:=(wk:Int)) (by simp;rw [EV.out];exact an1) (by omega) (by omega));refine P2a.put (we.setCell ⟨r.gb,a+1,none⟩ (.int .i64 wk)) (by first | rfl | (rw [hops.out];rfl)) ?run21 ?hS21 ?next21
        case run21=>go_simp
        case hS21=>exact ⟨N6.out.len (by simp;exact EV.out),(((But.refl r.own we).setCell (.inl r.Y3a) _).cell zd6 DBN.out _).trans gd6⟩
        refine layy ?_;refine P2a.done ?_;clear g0 fr0 zg gd6 zd6 N5 y1 y2 y3 y4
        go_wp2_with fail
        go_roundg (i-(q+1))
        case measure=>omega
        case rel=>exact ⟨q+1,_,by omega,H0c _,by go_num,hZ (by rw [ET.out];exact MK2.out),N6⟩
      have:q=i:=by omega
      subst this;have tk:decide ((q:Int) < (q:Int))=false:=dF
      have MR:=hZ (rMerge (S:=S') (W:=V2) (show RW wr r { S' with words:=V2 } from NM.out.toRW.to MD.out.coll.sizes MD.out.coll.order rfl) HW3.out (MG.out V2 (by
       have:=MK.out;rw [s6b (by rw [EDL.out];exact H0c _)] at this;exact this)))
      go_wp2_with (go_at_call 150;refine MR.out.mono ?_;rintro e w7 ⟨rfl,hN7⟩)
      go_returns;exact ⟨by rw [EDL.out];rfl,TOT.out.trans ((NM.out.to rfl rfl rfl).trans hN7)⟩
theorem j8b {d:Nat} {lt:List Int} (hl:SliceAt w p c l) (ht:SliceAt w q d lt) (hlen:lt.length=l.length) {y:Int} (hk:Hp.rd l k=some x) (hf:∀ j,j < k->Hp.rd l j ≠ some x) (hv:Hp.rd lt k=some y) :
    Calls prog 151 #[.slice p l.length c,.slice q lt.length d,.int .i64 x] w (Rt w (.int .i64 y)):=by
  have hkl:=G0a hk;have hle:=hl.le;have hcap:=hl.cap;have tle:=ht.le;have tcap:=ht.cap;rw [hlen] at tle ⊢;have H:=hZ hl;have HT:=hZ ht;have HK:=hZ hk;have HF:=hZ hf;have HV:=hZ hv;have HLN:=hZ hlen;clear hl ht hk hf hv hlen;generalize hL:l.length=n at hle hkl tle ⊢;have HL:=hZ hL;clear hL;go_enter func151,ntmps151
  go_wp2_with fail
  go_loopg [7] n (fun g i wr=>∃ j:Nat,j<=k/\n-j<=g/\i = .int .i64 j/\Hid (Ext w wr))
  case atStart=>exact ⟨0,G9c _,by omega,rfl,hZ (Ext.refl w)⟩
  case round=>
   obtain ⟨j,hj,hg,rfl,E⟩:=hrel;obtain ⟨z,hz⟩:=A4a (l:=l) (j:=j) (by rw [HL.out];omega);obtain ⟨bb,o,hp,hbb,hc⟩:=(H.out.ext E.out).cells (by rw [HL.out];omega);have g1:=hc j z hz;have tk:decide ((j:Int) < (n:Int))=true:=dT;have HZ:=hZ hz;clear hc hz;subst hp
   by_cases hjk:j=k
   . subst hjk;have hzx:z=x:=by
      have:=HZ.out;rw [HK.out] at this;exact (D3c this).symm
     have t0:(z == x)=true:=by simpa using hzx
     obtain ⟨tb,to',tp,tbb,tc⟩:=(HT.out.ext E.out).cells (by have:=HLN.out;have:=HL.out;omega);have g2:=tc j y HV.out;clear tc hzx;subst tp
     go_wp2_with fail
     go_returns;exact ⟨rfl,E.out⟩
   have hzx:z ≠ x:=by
    intro e;exact HF.out j (by omega) (by rw [HZ.out,e])
   have t0:(z == x)=false:=by simpa using hzx
   clear hzx
   go_wp2_with fail
   go_roundg (n-(j+1))
   case measure=>omega
   case rel=>exact ⟨j+1,by omega,H0c _,by go_num,E⟩
def g3b (w:World) (r:Rd) (S1 S2:Hp.Hs) (M:List (Nat × Int)) (e:Ending) (w':World):Prop:=
 ∃ mv p c b0 g,e = .returned (.slice p (Hp.E1a mv S1.taken).length c)/\w.heap.size<=b0/\Row w' b0 p c (Hp.E1a mv S1.taken)/\w.heap.size<=g/\RW w' { r with gb:=g,wc:=S2.words.length } S2/\But r.own w w'/\Hp.Y7b S1 S2 M mv
theorem A3a.sub (h:A3a w g W) (hn:i+n<=W.length) (h1:W.length<=c) (h2:c<=9223372036854775807):SliceAt w (some ⟨g,i,none⟩) (c-i) (Hp.cut (Hp.ow W) i n):=by
 refine ⟨by rw [Hp.E2a];omega,by omega,fun x hx=>?_,fun _=>⟨g,i,rfl,h.lt,fun j x hx=>?_⟩⟩
 . obtain ⟨k,hk,rfl⟩:=Hp.a9a.1 hx;exact h.bound (Hp.F7a (j:=i+k) (by omega))
 have hj:=G0a hx
 rw [Hp.E2a] at hj
 unfold Hp.rd at hx
 rw [Hp.I5a hj] at hx
 cases hx
 exact h.get (Hp.F7a (by omega))
theorem Hp.I3a.cut {m:Nat->Nat} {V0 V:List Int} (F:Hp.I3a S m a V0 (Hp.wz S.sizes (Hp.ow S.words a)-4) V):Hp.cut (Hp.ow V) (m a+4) (Hp.wz S.sizes (Hp.ow S.words a)-4)=Hp.nz (Hp.ow S.words) S.sizes m a:=by
 refine List.ext_getElem (by rw [Hp.E2a,Hp.Y6b]) fun i h1 h2=>?_
 rw [Hp.E2a] at h1
 have e1:=Hp.I5a (f:=Hp.ow V) (i:=m a+4) h1
 rw [r1b (by rw [Hp.E2a];exact h1)] at e1
 have e2:=F.fld i h1
 rw [q1b,r1b h2] at e2
 rw [D3c e1,e2]
 rfl
theorem But.widen {l l':List Nat} {a b c:World} (h:But l a b) (k:But l' b c) (hl:∀ x ∈ l',x ∈ l \/ a.heap.size<=x):But l a c:=
 ⟨k.os.trans h.os,k.tape.trans h.tape,k.output.trans h.output,G5c h.size k.size,fun i hi hn=>(k.block i (x4b hi h.size) (fun hm=>(hl i hm).elim hn (fun h=>by omega))).trans (h.block i hi hn)⟩
theorem e2a {v u:Value} (h:w.cell? ⟨b,i,none⟩=some v) (hj:i ≠ j):(w.setCell ⟨b,j,none⟩ u).cell? ⟨b,i,none⟩=some v:=by
 have z:=cell_lt h
 go_simp
theorem RW.hand {w3 wz:World} {rx:Rd} {S1 S2:Hp.Hs} {V:List Int} (N3:RW w3 r S1) (hE:Ext w3 wz) (NX:RW wz rx { S1 with words:=V }) (hgx:w3.heap.size<=rx.gb) (hV:V.length=n) (hn:n<=100000) (hz:S2.sizes=S1.sizes) (ho:S2.order=S1.order) :
    RW (wz.setCell ⟨r.rb,2,none⟩ (.slice (some ⟨rx.gb,0,none⟩) n n)) { r with gb:=rx.gb,wc:=n } { S2 with words:=V }:=by
  have h:=N3.ext hE;have z3:=N3.lt;have z:=h.lt;have c2:=h.c2;have f2:=h.f2;have k:But [r.rb] wz (wz.setCell ⟨r.rb,2,none⟩ (.slice (some ⟨rx.gb,0,none⟩) n n)):=(But.refl _ _).setCell (by simp) _;have far:∀ {p:Option Addr} {c:Nat} {l:List Int},SliceAt w3 p c l->(0 < l.length -> ∀ b o,p=some ⟨b,o,none⟩->b ∉ r.own)->0 < l.length -> ∀ b o,p=some ⟨b,o,none⟩->b ∉ [r.rb,rx.gb]:=by
   intro p c l hs hf h0 b o e hm;obtain ⟨b',o',e',hb,_⟩:=hs.cells h0;have hf:=hf h0 b o e;rw [e'] at e
   cases e
   simp only [E6c,A9c,or_false] at hm
   rcases hm with rfl | rfl
   . exact hf r.S8a
   omega
  exact
   { c0:=by rw [hz];exact e2a h.c0 (by omega)
     c1:=by rw [ho];exact e2a h.c1 (by omega)
     c2:=by
      show World.cell? _ ⟨r.rb,2,none⟩=some (.slice (some ⟨rx.gb,0,none⟩) V.length n);rw [hV];go_simp
     f2:=by
      show World.frozen? _ ⟨r.rb,2,none⟩=false;go_simp
     sizes:=by
      rw [hz];exact h.sizes.but1 k fun h0 b o e hm=>h.far1 h0 b o e (by simp at hm;subst hm;exact r.S8a)
     order:=by
      rw [ho];exact h.order.but1 k fun h0 b o e hm=>h.far2 h0 b o e (by simp at hm;subst hm;exact r.S8a)
     words:=NX.words.but k (by simp;omega)
     le:=by show V.length<=n;omega
     cap:=by show n<=_;omega
     go:=h.go
     apart:=by show r.rb ≠ rx.gb;omega
     far1:=by rw [hz];exact far N3.sizes N3.far1
     far2:=by rw [ho];exact far N3.order N3.far2 }
namespace Hp
section
variable {S:Hs} {B:Nat} {L:List Tl} {ch:Nat->List Nat} {m:Nat->Nat} {a k:Nat}
theorem lt20 (h:Wf S B L ch) (ha:a ∈ S.taken):decide (ow S.words a < 20) = !B1a (ow S.words a):=by
 have hot:=h.cells.tags a ha
 cases he:B1a (ow S.words a) with
 | true=>
  simp only [B1a,within,B8c,A1c] at he;simp only [F2c,decide_eq_false_iff_not];omega
 | false=>
  have hnd:=Q2a hot he;simp only [isNode,within,B8c,A1c] at hnd;have:=h.fr.few;simp only [E2c,A1c];omega
theorem nz_end (he:B1a (ow S.words a)=true) (hk:k < wz S.sizes (ow S.words a)-4):(nz (ow S.words) S.sizes m a).getD k 0=ow S.words (a+4+k):=by
 unfold nz
 rw [H5c he,q1b]
 unfold fz
 rw [I5a hk]
 rfl
theorem j1b (h:Wf S B L ch) (ha:a ∈ S.taken) (he:B1a (ow S.words a)=false) (hk:k < wz S.sizes (ow S.words a)-4):∃ b,b ∈ S.taken/\ow S.words (a+4+k)=(b:Int)/\(nz (ow S.words) S.sizes m a).getD k 0=(m b:Int):=by
 have e:(fz (ow S.words) S.sizes a)[k]? = some (ow S.words (a+4+k)):=by unfold fz;exact I5a hk
 have hm:ow S.words (a+4+k) ∈ kz (ow S.words) S.sizes a:=by
  unfold kz;rw [H4c (by rw [he];simp)];exact u1b e
 obtain ⟨b,hb,ex,_⟩:=h.cells.kids a ha _ hm
 refine ⟨b,hb,ex, ?_⟩
 unfold nz
 rw [H4c (by rw [he];simp),q1b,y7b,e,ex]
 simp [to']
end
end Hp
theorem U2b (h:S.taken[i]? = some b):Hp.rd (Q3a S) i=some (b:Int):=by
 obtain ⟨a,_,ha,e⟩:=L1a (S:=S) (q5b.1 h).1
 rw [h] at ha
 cases ha
 exact e
theorem v2a (hn:S.taken.Nodup) (h:S.taken[i]? = some b) (j:Nat) (hj:j < i):Hp.rd (Q3a S) j ≠ some (b:Int):=by
 intro e
 have hi:=(q5b.1 h).1
 obtain ⟨a,_,ha,e'⟩:=L1a (S:=S) (j:=j) (by omega)
 rw [e] at e'
 have:a=b:=by
  have:=D3c e';omega
 subst this
 obtain ⟨h1,e1⟩:=q5b.1 h
 obtain ⟨h2,e2⟩:=q5b.1 ha
 have:=q9b.1 hn j i h2 h1 hj
 exact this (e2.trans e1.symm)
theorem cutW {P:Program} {c:Code} {Q:Exit->Act->World->Prop} {a:Act} {F:World->Prop} (h:F w) (k:∀ w',F w'->c.wp P Q a w'):c.wp P Q a w:=k w h
end Go.Proofs.YtdokmmhjmclmnaaGreat
