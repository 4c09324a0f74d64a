/- Part 9 of a proof. -/
import Derived.Test.YtdokmmhjmclmnaaGreatMU07
import Derived.Test.YtdokmmhjmclmnaaGreatMU08
set_option linter.unusedSimpArgs false
set_option linter.unusedVariables false
set_option linter.unusedSectionVars false
set_option linter.unnecessarySimpa false
set_option maxHeartbeats 16000000
set_option maxRecDepth 100000
namespace Go.Proofs.YtdokmmhjmclmnaaGreat
open Go.Proofs.Tryz
variable {W' w w' w0 wb:World} {B a b bx c ca cap ce cn f g i j k lb m n qc:Nat} {choice e t x:Int} {A W fs ks l o z:List Int} {D T Y:List Nat} {p p2 pa pe pn q:Option Addr} {d:Hd} {S S':Hp.Hs} {M:List (Nat × Int)} {s:Hp.Sc}
open Go.RowKit
def Hp.Hs.G6a (S:Hp.Hs):Nat->Nat->List Nat->List Int->Option (Option (List Nat × List Int))
 | 0,_,_,_=>none
 | n+1,a,T,G=>
  if S.words.length<=a then some (some (T,G)) else do
  let t <- Hp.rd S.words a
  if t=0 then
   if S.words.length < a+3 then some none else do
   let v <- Hp.rd S.words (a+1)
   if 3<=v/\a+v<=S.words.length then S.G6a n (a+v.toNat) T (G ++ [(a:Int)]) else some none
  else if Hp.within 1 S.sizes.length t || Hp.B1a t then do
   let k <- Hp.wide S.sizes t
   if a+k<=S.words.length then S.G6a n (a+k) (Hp.Hs.insert a T) G else some none
  else some none
structure LdAt (w0 w:World) (lb:Nat) (d:Hd) (S:Hp.Hs) (v:Value) (p:Option Addr) (k:Nat) (G:List Int):Prop extends HAt w d S where
 ext0:Ext w0 w
 h0:w.cell? ⟨lb,0,none⟩=some (.pointer (some ⟨d.hb,0,none⟩))
 h1:w.cell? ⟨lb,1,none⟩=some v
 fz:∀ k,w.frozen? ⟨lb,k,none⟩=false
 r:Row w 0 p k G
 lb0:w0.heap.size<=lb
 own0:∀ b ∈ d.own,w0.heap.size<=b
 lbn:lb ∉ d.own
 n:∀ b o,p=some ⟨b,o,none⟩->w0.heap.size<=b/\b ∉ d.own/\b ≠ lb
 spn:∀ b o,d.sp=some ⟨b,o,none⟩->b ≠ lb /\ ∀ o',p ≠ some ⟨b,o',none⟩
 opn:∀ b o,d.op=some ⟨b,o,none⟩->b ≠ lb /\ ∀ o',p ≠ some ⟨b,o',none⟩
namespace LdAt
variable {w0 w w':World} {lb:Nat} {d:Hd} {S:Hp.Hs} {v:Value} {p:Option Addr} {k:Nat} {G:List Int}
theorem lt1 (h:LdAt w0 w lb d S v p k G):lb < w.heap.size:=cell_lt h.h0
theorem ext (h:LdAt w0 w lb d S v p k G) (e:Ext w w'):LdAt w0 w' lb d S v p k G:=
 { h with
   toHAt:=h.toHAt.ext e
   ext0:=h.ext0.trans e
   h0:=e.q h.h0
   h1:=e.q h.h1
   fz:=fun j=>(e.frozen h.lt1 j).trans (h.fz j)
   r:=h.r.ext e }
theorem turn (h:LdAt w0 w lb d S v p k G) (e:But d.own w w') (h':HAt w' d S'):LdAt w0 w' lb d S' v p k G:=
 { toHAt:=h'
   ext0:=But.D3a h.ext0 e h.own0
   h0:=(e.cell h.lt1 h.lbn 0).trans h.h0
   h1:=(e.cell h.lt1 h.lbn 1).trans h.h1
   fz:=fun j=>(e.frozen h.lt1 h.lbn j).trans (h.fz j)
   r:=h.r.but_ e (fun b o q=>(h.n b o q).2.1)
   lb0:=h.lb0
   own0:=h.own0
   lbn:=h.lbn
   n:=h.n
   spn:=h.spn
   opn:=h.opn }
theorem mapped (h:LdAt w0 w lb d S v p k G) (e:w.mapTurned w' d.gm) (hm:MapAt prog w' d.gm T) (hb:∀ a ∈ T,a < S.words.length):LdAt w0 w' lb d { S with taken:=T } v p k G:=
 h.turn ((But.refl _ _).turned e (.inl d.I7a)) (h.toHAt.mapped e hm hb)
theorem grow (h:LdAt w0 w lb d S v p k G) {row:Option Nat} {G':List Int} (hR:Row w' 0 (some ⟨g,0,none⟩) cap G') (hG:w.grownBy w' row) (hrow:∀ r,row=some r->p=some ⟨r,0,none⟩) (hg:p=some ⟨g,0,none⟩ \/ g=w.heap.size) :
    LdAt w0 w' lb d S v (some ⟨g,0,none⟩) cap G':=by
  have kb:But row.toList w w':=⟨hG.os,hG.tape,hG.output,hG.size,fun i hi hn=>hG.block i hi (fun e=>hn (by rw [<- e];simp))⟩
  have far:∀ b,(∀ r,p=some ⟨r,0,none⟩->b ≠ r)->b ∉ row.toList:=fun b hb hm=>by
   have e:row=some b:=by simpa using hm
   exact hb b (hrow b e) rfl
  have own:∀ b ∈ d.own,b ∉ row.toList:=fun b hb=>far b fun r e er=>(h.n r 0 e).2.1 (er ▸ hb)
  have sbf:lb ∉ row.toList:=far lb fun r e er=>(h.n r 0 e).2.2 er.symm
  have e0:=h.ext0.le;have l1:=h.lt1;have og:=h.toHAt.D1a;have new:w0.heap.size<=g/\g ∉ d.own/\g ≠ lb:=by
   rcases hg with e | rfl
   . exact h.n g 0 e
   exact ⟨e0,fun hm=>by have:=og _ hm;omega,by omega⟩
  exact
  { toHAt:=h.toHAt.but kb (own _ d.S2a) (own _ d.L6a) (own _ d.I7a) (fun b o e=>far b fun r er e2=>(h.spn b o e).2 0 (e2 ▸ er)) (fun b o e=>far b fun r er e2=>(h.opn b o e).2 0 (e2 ▸ er))
    ext0:=h.ext0.grown hG (fun r e=>(h.n r 0 (hrow r e)).1)
    h0:=(kb.cell l1 sbf 0).trans h.h0
    h1:=(kb.cell l1 sbf 1).trans h.h1
    fz:=fun j=>(kb.frozen l1 sbf j).trans (h.fz j)
    r:=hR
    lb0:=h.lb0
    own0:=h.own0
    lbn:=h.lbn
    n:=fun b o e=>by cases e;exact new
    spn:=fun b o e=>⟨(h.spn b o e).1,fun o' e'=>by
     cases e'
     rcases hg with hg | rfl
     . exact (h.spn g o e).2 0 hg
     . have:=h.old1 _ o e;omega⟩
    opn:=fun b o e=>⟨(h.opn b o e).1,fun o' e'=>by
     cases e'
     rcases hg with hg | rfl
     . exact (h.opn g o e).2 0 hg
     . have:=h.old2 _ o e;omega⟩ }
theorem stored (h:LdAt w0 w lb d S v p k G):LdAt w0 (w.setCell ⟨lb,1,none⟩ (.slice p G.length k)) lb d S (.slice p G.length k) p k G:=by
 have e:But [lb] w (w.setCell ⟨lb,1,none⟩ (.slice p G.length k)):=(But.refl _ _).setCell (.inl (by simp)) _
 have o:∀ x ∈ d.own,x ∉ [lb]:=fun x hx hm=>by
  have:x=lb:=by simpa using hm
  subst this;exact h.lbn hx
 exact
 { toHAt:=h.toHAt.but e (o _ d.S2a) (o _ d.L6a) (o _ d.I7a) (fun b o' q hm=>(h.spn b o' q).1 (by simpa using hm)) (fun b o' q hm=>(h.opn b o' q).1 (by simpa using hm))
   ext0:=Ext.setCell h.ext0 h.lb0 _
   h0:=by simpa [go_sem] using h.h0
   h1:=r5b _ _ _ h.h1
   fz:=fun j=>by simpa [go_sem] using h.fz j
   r:=h.r.but_ e (fun b o' q hm=>(h.n b o' q).2.2 (by simpa using hm))
   lb0:=h.lb0
   own0:=h.own0
   lbn:=h.lbn
   n:=h.n
   spn:=h.spn
   opn:=h.opn }
theorem cut {P:Program} {cd:Code} {Q:Exit->Act->World->Prop} {a:Act} (h:LdAt w0 w lb d S v p k G) (hk:∀ w',LdAt w0 w' lb d S v p k G->cd.wp P Q a w'):cd.wp P Q a w:=hk w h
end LdAt
theorem s4a {G:List Int} {R:Option (List Nat × List Int)} (h:S.G6a n a T G=some R) :
    (S.words.length<=a/\R=some (T,G)) \/ (a < S.words.length /\ ∃ n' t,n=n'+1/\Hp.rd S.words a=some t /\
     ((t=0/\S.words.length < a+3/\R=none) \/
      (t=0/\a+3<=S.words.length /\ ∃ v,Hp.rd S.words (a+1)=some v/\((3<=v/\a+v<=S.words.length/\S.G6a n' (a+v.toNat) T (G ++ [(a:Int)])=some R) \/ (¬ (3<=v/\a+v<=S.words.length)/\R=none))) \/
      (t ≠ 0/\(Hp.within 1 S.sizes.length t=true \/ Hp.B1a t=true) /\ ∃ k,Hp.wide S.sizes t=some k/\((a+k<=S.words.length/\S.G6a n' (a+k) (Hp.Hs.insert a T) G=some R) \/ (¬ a+k<=S.words.length/\R=none))) \/
      (t ≠ 0/\Hp.within 1 S.sizes.length t=false/\Hp.B1a t=false/\R=none))):=by
  cases n with
  | zero=>simp [Hp.Hs.G6a] at h
  | succ n=>
   unfold Hp.Hs.G6a at h
   split at h
   . rename_i hge;exact .inl ⟨hge,by simpa using h.symm⟩
   rename_i hlt;simp only [v9b,s0b] at h;obtain ⟨t,ht,h⟩:=h;refine .inr ⟨by omega,n,t,rfl,ht, ?_⟩
   split at h
   . rename_i h0
     split at h
     . rename_i h3;exact .inl ⟨h0,h3,by simpa using h.symm⟩
     rename_i h3;simp only [s0b] at h;obtain ⟨v,hv,h⟩:=h;refine .inr (.inl ⟨h0,by omega,v,hv, ?_⟩)
     split at h
     . rename_i h4;exact .inl ⟨h4.1,h4.2,h⟩
     rename_i h4;exact .inr ⟨h4,by simpa using h.symm⟩
   rename_i h0
   split at h
   . rename_i h1;simp only [s0b] at h;obtain ⟨k,hk,h⟩:=h;refine .inr (.inr (.inl ⟨h0,by simpa using h1,k,hk, ?_⟩))
     split at h
     . rename_i h4;exact .inl ⟨h4,h⟩
     rename_i h4;exact .inr ⟨h4,by simpa using h.symm⟩
   rename_i h1;simp only [D4c,not_or,Bool.not_eq_true] at h1;exact .inr (.inr (.inr ⟨h0,h1.1,h1.2,by simpa using h.symm⟩))
open Go.RowKit Go.Maps
theorem wpList_append_own {w:World} {ops:Array Oper} {rest:List Oper} {o:Oper} {a:Act} {Q:Exit->Act->World->Prop} (hgd:o.guard=none) (s x:Operand)
    (ho:o.op = .call { callee:=.builtin .append,args:=#[s,x],argTypes:=#[22,22] }) {c b:Nat} {p:Option Addr} {l:List Int} {y:Int} (hs:a.eval s = .slice p l.length c) (hx:a.eval x = .slice (some ⟨b,0,none⟩) 1 1)
    (hrow:Row w 0 p c l) (hy:w.cell? ⟨b,0,none⟩=some (.int .i64 y)) (hy1 : -9223372036854775808<=y) (hy2:y<=9223372036854775807) (hlen:l.length < 10000000)
    (h:∀ g cap w' row,Row w' 0 (some ⟨g,0,none⟩) cap (l ++ [y])->w.grownBy w' row->(∀ r,row=some r->p=some ⟨r,0,none⟩)->(p=some ⟨g,0,none⟩ \/ g=w.heap.size)->g < w'.heap.size->wpList prog ops Q rest (a.put o.dst (.slice (some ⟨g,0,none⟩) (l.length+1) cap)) w'):wpList prog ops Q (o :: rest) a w:=by
  obtain ⟨i0,hi,hz0,hz1,hz2⟩:=info_parts (show (prog.info? 3).map (fun i=>(i.zero,i.size,i.bytes))=some (some (.int .i64 0),1,8) from by kernel_rfl);refine wpList_append_lies w hgd s x 22 ho 0 3 i0 (.int .i64 0) 1 8 underlying22 hi hz0 hz1 hz2 rfl (by decide) _ _ _ hs hrow.1 ⟨b,0,none⟩ 1 1 [.int .i64 y] hx (by simp) (fun j u hj=>?_) (by simp [Value.oneCell']) (by omega) (by unfold maxLen;omega) (by omega) (G9c _) _ rfl ?_
  . cases j with
    | zero=>
     simp at hj;subst hj;rw [G8c];exact hy
    | succ j=>simp at hj
  intro g cap w' hown hgrow hor hlt;have own:=D7b hrow;refine h g cap w' _ ⟨by simpa [ints] using hown,fun z hz=>?_⟩ hgrow own (hor.imp (own g) id) hlt
  rcases C4c.1 hz with hz | hz
  . exact hrow.2 z hz
  have:z=y:=by simpa using hz
  subst this;exact ⟨hy1,hy2⟩
def LwPost (w0:World) (lb:Nat) (d:Hd) (S:Hp.Hs) (R:Option (List Nat × List Int)) (e:Ending) (w':World):Prop:=
 Ext w0 w'/\((R=none/\e = .returned (.bool false)) \/ ∃ T G p k,R=some (T,G)/\e = .returned (.bool true)/\LdAt w0 w' lb d { S with taken:=T } (.slice p G.length k) p k G)
theorem W2b {R:Option (List Nat × List Int)} (h:LdAt w0 w lb d { S with taken:=[] } (.slice none 0 0) none 0 []) (hr:S.G6a S.fuel 17 [] []=some R) :
    Calls prog 61 #[.pointer (some ⟨lb,0,none⟩)] w (LwPost w0 lb d S R):=by
  have sm:=h.small;obtain ⟨n,hn⟩:∃ n,S.words.length=n:=⟨_,rfl⟩
  have EN:=hZ hn;simp only at sm;rw [hn] at sm;have H:=hZ h;have HR:=hZ hr;clear h hr hn;go_enter func61,ntmps61
  go_wp2_with fail
  go_loopg [3] (S.fuel+1) (fun g i wr=>∃ (a m:Nat) (T:List Nat) (G:List Int) (p:Option Addr) (k:Nat),m+1<=g/\i = .int .i64 a/\a<=2000000/\G.length<=a/\Hid (LdAt w0 wr lb d { S with taken:=T } (.slice p G.length k) p k G)/\Hid (S.G6a m a T G=some R))
  case atStart=>exact ⟨17,S.fuel,[],[],none,0,H0c _,rfl,by omega,by simp,H,HR⟩
  case round=>
   obtain ⟨a,m,T,G,p,k,hg,rfl,ha,hgl,N,HW⟩:=hrel;clear H HR;have h0:=N.out.h0;have c2:=N.out.c2;simp only at c2;rw [EN.out] at c2;have z0:=N.out.lt1;have zh:=N.out.lt
   rcases s4a HW.out with ⟨hge,rfl⟩ | ⟨hlt,m',t,hm,ht,hq⟩
   . rw [EN.out] at hge;have tk:decide ((a:Int) < (n:Int))=false:=dF
     go_wp2_with fail
     go_returns;exact ⟨N.out.ext0,.inr ⟨T,G,p,k,rfl,rfl,N.out⟩⟩
   rw [EN.out] at hlt hq;have tk:decide ((a:Int) < (n:Int))=true:=dT;have HT:=hZ ht;have HQ:=hZ hq;have hle:=N.out.le;have hcap:=N.out.cap;simp only at hle;rw [EN.out] at hle;have bt:=N.out.words.bound ht;clear ht hq HW;have wl:IntKind.i64.wrap ((n:Int)-(a:Int))=(n:Int)-(a:Int):=E4c _ (by omega);go_upto_region 3 with (fail)
   have pr15a:=Ext.r h0;have pr15b:=Ext.r c2
   refine rg0 wr ?_
   refine' tkd 0 ?_;refine' tkd 2 ?_;refine' tkd 4 ?_;refine' tkd 6 ?_;refine' tkd 8 ?_;refine' tkd 10 ?_;refine' tkd 12 ?_;refine' tkL 14 ?_;refine' tkC 15 (.int .i64 t) 76 (fun w hE=>F4a (N.out.ext hE).c2 rfl N.out.le N.out.cap (N.out.ext hE).words HT.out) ?_;refine' tkd 16 ?_;refine A0a (by kernel_rfl) ?_ _;intro x1 _ Ex1;clear pr15a pr15b;have N1:=hZ (N.out.ext Ex1);clear h0 c2 z0 zh tk N Ex1
   rcases HQ.out with ⟨rfl,h3,rfl⟩ | ⟨rfl,h3,v,hv,hq⟩ | ⟨ht0,hor,kk,hkk,hq⟩ | ⟨ht0,hw,he,rfl⟩
   . have t1:decide ((n:Int)-(a:Int) < 3)=true:=dT
     go_wp2_with fail
     go_returns;exact ⟨N1.out.ext0,.inl ⟨rfl,rfl⟩⟩
   . have bv:=N1.out.words.bound hv;have gv:=N1.out.words.get hv;have lv:=G0a hv;rw [EN.out] at lv;have h0:=N1.out.h0;have h1:=N1.out.h1;have f1:=N1.out.fz 1;have c2:=N1.out.c2;simp only at c2;rw [EN.out] at c2;have t1:decide ((n:Int)-(a:Int) < 3)=false:=dF;have N2:=hZ (N1.out.ext (Ext.alloc (Ext.refl x1) (.cells #[.int .i64 (a:Int)] 3)));obtain ⟨bw,hbw⟩:∃ bw,Hp.within 3 ((n:Int)-(a:Int)) v=bw:=⟨_,rfl⟩
     have wi:∀ W:World,Calls prog 105 #[.int .i64 3,.int .i64 ((n:Int)-(a:Int)),.int .i64 v] W fun e w'=>e = .returned (.bool bw)/\Ext W w':=fun W=>hbw ▸ E5a 3 ((n:Int)-(a:Int)) v W
     have HBW:=hZ hbw;have HQ2:=hZ hq;clear hv hq hbw HQ;go_upto_region 14 with (at_builtin;refine wpList_append_own rfl _ _ rfl (y:=(a:Int)) rfl rfl N2.out.r (by go_simp) (by omega) (by omega) (by omega) ?_;intro g8 c8 x8 row8 hR8 hG8 hrow8 hg8 hl8;have N3:=hZ (N2.out.grow hR8 hG8 hrow8 hg8);clear hR8 hG8 hrow8 hg8;have h03:=N3.out.h0;have h13:=N3.out.h1;have f13:=N3.out.fz 1)
     have N4:=hZ N3.out.stored;simp only [w2b,t7b] at N4;refine LdAt.cut N4.out ?_;clear N4 N3 N2 h03 h13 f13 h0 h1 f1 c2 gv;intro w5 N5';have N5:=hZ N5';clear N5'
     rcases HQ2.out with ⟨hv3,hvn,hrest⟩ | ⟨hno,rfl⟩
     . have hb:bw=true:=by
         rw [<- HBW.out];simp only [Hp.within,B8c,A1c];omega
       have HRE:=hZ hrest;clear hrest HQ2;subst hb;obtain ⟨vn,rfl⟩:∃ vn:Nat,v=vn:=⟨v.toNat,by omega⟩
       go_wp2_with (go_at_call 105;refine (wi _).mono ?_;rintro e w6 ⟨rfl,E6⟩;have N6:=hZ (N5.out.ext E6))
       go_roundg (m'+1)
       case measure=>omega
       case rel=>exact ⟨a+vn,m',T,G ++ [(a:Int)],some ⟨g8,0,none⟩,c8,H0c _,by go_num,by omega,by simp;omega,hZ (by simpa using N6.out),hZ (by simpa using HRE.out)⟩
     have hb:bw=false:=by
      rw [<- HBW.out,Bool.eq_false_iff];intro h;simp only [Hp.within,B8c,A1c] at h;omega
     subst hb
     go_wp2_with (go_at_call 105;refine (wi _).mono ?_;rintro e w6 ⟨rfl,E6⟩;have N6:=hZ (N5.out.ext E6))
     go_returns;exact ⟨N6.out.ext0,.inl ⟨rfl,rfl⟩⟩
   . have t0:(t == 0)=false:=by simpa using ht0
     have wk:=A7b N1.out.toHAt hkk;have HK:=hZ hkk;have HQ2:=hZ hq;have h0:=N1.out.h0;have c0:=N1.out.c0;have c1:=N1.out.c1;have c3:=N1.out.c3;have zl:=N1.out.lt1;have zh:=N1.out.lt;have HOR:=hZ hor;obtain ⟨bn,hbn⟩:∃ bn,Hp.within 1 S.sizes.length t=bn:=⟨_,rfl⟩
     have IN:∀ W:World,Calls prog 122 #[.agg #[.slice d.sp S.sizes.length d.sc,.slice d.op S.order.length d.oc],.int .i64 t] W fun e w'=>e = .returned (.bool bn)/\Ext W w':=fun W=>hbn ▸ m1a d.sp d.op S.sizes.length d.sc S.order.length d.oc t W
     have HE:bn=false->Hp.B1a t=true:=fun e=>by
      rcases hor with h | h
      . rw [hbn,e] at h
        cases h
      exact h
     have HEH:=hZ HE;simp only at c0 c1;clear hkk hq hor HQ HE hbn
     cases bn
     case' true=>go_upto_region 12 with (go_at_call 122;refine (IN _).mono ?_;rintro e w6 ⟨rfl,E6⟩;have NX:=hZ (N1.out.ext E6);have EX:=E6)
     case' false=>
      have HE2:=hZ (HEH.out rfl)
      go_upto_region 12 with (first
       | (go_at_call 122;refine (IN _).mono ?_;rintro e w6 ⟨rfl,E6⟩)
       | (go_at_call 78;refine (H4a HE2.out _).mono ?_;rintro e w7 ⟨rfl,E7⟩;have NX:=hZ ((N1.out.ext E6).ext E7);have EX:=E6.trans E7))
     all_goals
      have h0':=NX.out.h0;have c0':=NX.out.c0;have c1':=NX.out.c1;simp only at c0' c1';clear h0 c0 c1 c3 IN;go_upto_region 13 with (go_at_call 123;refine (V7a NX.out.sizes HK.out (by omega)).mono ?_;rintro e w8 ⟨rfl,E8⟩;have N8:=hZ (NX.out.ext E8);have h08:=N8.out.h0;have c38:=N8.out.c3)
      obtain ⟨w9,hup,hm9,ht9⟩:=N8.out.map.put (t:=102) underlying3 underlying4 underlying102 (by have:=N8.out.a1a;have:=N8.out.small;unfold maxLen;omega) (a:=a) (by omega);have N9:=hZ (N8.out.mapped ht9 hm9 (fun a' ha'=>by
       rcases (D6a a a' T).1 ha' with rfl | h'
       . simp only;rw [EN.out];exact hlt
       . exact N8.out.below a' h'))
      clear hm9 ht9 h0' c0' c1';obtain ⟨bw,hbw⟩:∃ bw,Hp.within 3 ((n:Int)-(a:Int)) kk=bw:=⟨_,rfl⟩
      have wi:∀ W:World,Calls prog 105 #[.int .i64 3,.int .i64 ((n:Int)-(a:Int)),.int .i64 kk] W fun e w'=>e = .returned (.bool bw)/\Ext W w':=fun W=>hbw ▸ E5a 3 ((n:Int)-(a:Int)) kk W
      have HBW:=hZ hbw;clear hbw
      rcases HQ2.out with ⟨hvn,hrest⟩ | ⟨hno,rfl⟩
      . have hb:bw=true:=by
          rw [<- HBW.out];simp only [Hp.within,B8c,A1c];omega
        have HRE:=hZ hrest;clear hrest HQ2;subst hb
        go_wp2_with (go_at_call 105;refine (wi _).mono ?_;rintro e w11 ⟨rfl,E11⟩;have N11:=hZ (N9.out.ext E11))
        go_roundg (m'+1)
        case measure=>omega
        case rel=>exact ⟨a+kk,m',Hp.Hs.insert a T,G,p,k,H0c _,by go_num,by omega,by omega,N11,HRE⟩
      have hb:bw=false:=by
       rw [<- HBW.out,Bool.eq_false_iff];intro h;simp only [Hp.within,B8c,A1c] at h;omega
      subst hb
      go_wp2_with (go_at_call 105;refine (wi _).mono ?_;rintro e w11 ⟨rfl,E11⟩;have N11:=hZ (N9.out.ext E11))
      go_returns;exact ⟨N11.out.ext0,.inl ⟨rfl,rfl⟩⟩
   have t0:(t == 0)=false:=by simpa using ht0
   have IN:∀ W:World,Calls prog 122 #[.agg #[.slice d.sp S.sizes.length d.sc,.slice d.op S.order.length d.oc],.int .i64 t] W fun e w'=>e = .returned (.bool false)/\Ext W w':=fun W=>hw ▸ m1a d.sp d.op S.sizes.length d.sc S.order.length d.oc t W
   have h0:=N1.out.h0;have c0:=N1.out.c0;have c1:=N1.out.c1;simp only at c0 c1;have HE2:=hZ he;clear hw he
   go_wp2_with (first
    | (go_at_call 122;refine (IN _).mono ?_;rintro e w6 ⟨rfl,E6⟩)
    | (go_at_call 78;refine (H4a HE2.out _).mono ?_;rintro e w7 ⟨rfl,E7⟩;have NX:=hZ ((N1.out.ext E6).ext E7)))
   go_returns;exact ⟨NX.out.ext0,.inl ⟨rfl,rfl⟩⟩
def Hp.rest (W:List Int) (a v:Nat):List Int:=(W.drop (a+3)).take (v-3)
def Hp.N1a (W:List Int):List Int->Nat->Bool
 | [],link=>Hp.rd W link == some 0
 | x :: r,link=>
  let a:=x.toNat
  let v:=((Hp.rd W (a+1)).getD 0).toNat
  Hp.rd W link == some x && ((Hp.rest W a v).all (· == 0) && ((match r with | b :: _=>b != ((a+v:Nat):Int) | []=>true) && Hp.N1a W r (a+2)))
def Gap (W:List Int) (x:Int):Prop:=∃ a v:Nat,x=a/\Hp.rd W (a+1)=some (v:Int)/\3<=v/\a+v<=W.length
theorem N1b (x:Int) (w:World):Calls prog 125 #[.int .i64 x] w (Rt w (.bool (x == 0))):=by
 go_enter func125,ntmps125
 go_wp2
 go_returns
 exact ⟨rfl,exx⟩
theorem L8b:X9a w 125 #[] #[] l (fun x=>x == 0):=by
 intro j x _ _ W _
 have:=N1b x W
 simpa using this
theorem Q6b {v:Nat} {b:Bool} (h:HAt w d S) (h3:3<=v) (hl:a+v<=S.words.length) (hq:q=some ⟨d.gw,a+3,none⟩ \/ v=3) (c:Nat) (hc:v-3<=c) (hc2:c<=9223372036854775807) (hb:(Hp.rest S.words a v).all (fun x=>x == 0)=b) :
    Calls prog 124 #[.slice q (v-3) c,.func (.func 125) #[] #[]] w (Rt w (.bool b)):=by
  have hs:Hp.sub S.words (a+3) (v-3)=some (Hp.rest S.words a v):=by
   unfold Hp.sub Hp.rest;rw [H5c (by omega)]
  obtain ⟨qq,ql,_⟩:=sub_at h hs c hc hc2;have qa:SliceAt w q c (Hp.rest S.words a v):=by
   rcases hq with rfl | rfl
   . exact qq
   have:Hp.rest S.words a 3=[]:=p8b ql;rw [this];exact ⟨by simp,hc2,by simp,fun h=>by simp at h⟩
  have:=I0a (enters_of func125 (by kernel_rfl) rfl) qa L8b hb;rw [ql] at this;exact this
theorem z5a {G:List Int} (h:LdAt w0 w lb d S (.slice p G.length k) p k G) (hG:∀ x ∈ G,Gap S.words x) (hgl:G.length<=1000000) (h17:17<=S.words.length) {bb:Bool} (hbb:Hp.N1a S.words G 16=bb) :
    Calls prog 62 #[.pointer (some ⟨lb,0,none⟩)] w (Rt w (.bool bb)):=by
  have sm:=h.small;obtain ⟨n,hn⟩:∃ n,S.words.length=n:=⟨_,rfl⟩
  obtain ⟨m,hm⟩:∃ m,G.length=m:=⟨_,rfl⟩
  have EN:=hZ hn;have EM:=hZ hm;have h1:=h.h1;have H:=hZ h;have GH:=hZ hG;have HB:=hZ (show Hp.N1a S.words (G.drop 0) 16=bb from hbb);have le:=h.r.at_.le;have cap:=h.r.at_.cap;rw [hn] at sm h17;rw [hm] at h1 hgl le;clear h hG hbb hn hm;go_enter func62,ntmps62
  go_wp2_with fail
  go_loopg [3,12] m (fun g l i wr=>∃ (j link:Nat),j<=m/\m-j<=g/\i = .int .i64 j/\l = .int .i64 link/\link < n/\Hid (Hp.N1a S.words (G.drop j) link=bb)/\Hid (Ext w wr))
  case atStart=>exact ⟨0,16,G9c _,by omega,rfl,rfl,by omega,HB,hZ (Ext.refl w)⟩
  case round=>
   obtain ⟨j,link,hj,hg,rfl,rfl,hlk,HL,E⟩:=hrel;clear HB;have N:=hZ (H.out.ext E.out);have h0:=N.out.h0;have c2:=N.out.c2;rw [EN.out] at c2;obtain ⟨y,hy⟩:=A4a (l:=S.words) (j:=link) (by rw [EN.out];exact hlk);have gy:=N.out.words.get hy;have hle:=N.out.le;have hcap:=N.out.cap;rw [EN.out] at hle
   by_cases hlt:j < m
   . obtain ⟨x,hx⟩:=A4a (l:=G) (j:=j) (by rw [EM.out];exact hlt);obtain ⟨a,v,rfl,hv,h3,hav⟩:=GH.out x (u1b hx);rw [EN.out] at hav;obtain ⟨b,o,hp,hb,hc⟩:=N.out.r.at_.cells (by rw [EM.out];omega);have gx:=hc j _ hx;have gv:=N.out.words.get hv;have tk:decide ((j:Int) < (m:Int))=true:=dT;have hl:=HL.out;rw [q8b (by rw [EM.out];exact hlt)] at hl;have hxe:G[j]'(by rw [EM.out];exact hlt)=a:=by
      have:=hx;unfold Hp.rd at this;rw [r1b (by rw [EM.out];exact hlt)] at this;exact D3c this
     rw [hxe] at hl;simp only [Hp.N1a,z5b,hv,hy,B6c] at hl;have HLL:=hZ hl;have HX:=hZ hx;obtain ⟨bz,hbz⟩:∃ bz,(Hp.rest S.words a v).all (fun x=>x == 0)=bz:=⟨_,rfl⟩
     have ze:∀ W,Ext wr W->Calls prog 124 #[.slice (if d.cap=a+3 then some ⟨d.gw,0,none⟩ else some ⟨d.gw,a+3,none⟩) (v-3) (d.cap-(a+3)),.func (.func 125) #[] #[]] W fun e w'=>e = .returned (.bool bz)/\Ext W w':=fun W hW=>
      Q6b (N.out.ext hW).toHAt h3 (by rw [EN.out];omega) (by
       split
       . right;omega
       . left;rfl) _ (by omega) (by omega) hbz
     have HBZ:=hZ hbz;clear hc hx hl hxe hv hy hbz HL;subst hp
     by_cases hya:y=(a:Int)
     . have t0:(y != (a:Int))=false:=by simpa using hya
       have s1:(a:Int)+3<=(a:Int)+(v:Int):=by omega
       have s2:(a:Int)+(v:Int)<=(d.cap:Int):=by omega
       have s3:((a:Int)+(v:Int)).toNat-((a:Int)+3).toNat=v-3:=by omega
       have s4:((a:Int)+3).toNat=a+3:=by omega
       have s5:a+v-(a+3)=v-3:=by omega
       cases bz with
       | false=>
        have hbf:bb=false:=by
         rw [<- HLL.out];have:(Hp.rest S.words a v).all (· == 0)=false:=HBZ.out;rw [this];simp
        subst hbf
        go_wp2_with (go_at_call 124;(try rw [s5]);refine (ze _ (Ext.refl _)).mono ?_;rintro e w6 ⟨rfl,E6⟩)
        all_goals
         go_returns;exact ⟨rfl,E.out.trans E6⟩
       | true=>
        have hz:(Hp.rest S.words a v).all (· == 0)=true:=HBZ.out;have hl2:=HLL.out;rw [hz,hya] at hl2;simp only [beq_self_eq_true,F5c] at hl2
        by_cases hj1:j+1 < m
        . obtain ⟨z,hzr⟩:=A4a (l:=G) (j:=j+1) (by rw [EM.out];exact hj1);obtain ⟨b',o',hp',hb',hc'⟩:=N.out.r.at_.cells (by rw [EM.out];omega)
          cases hp'
          have gz:=hc' (j+1) _ hzr;have hd:G.drop (j+1)=z :: G.drop (j+2):=by
           rw [q8b (by rw [EM.out];exact hj1)];unfold Hp.rd at hzr;rw [r1b (by rw [EM.out];exact hj1)] at hzr;rw [D3c hzr]
          have t1:decide ((j:Int)+1 < (m:Int))=true:=dT;rw [hd] at hl2;simp only at hl2
          by_cases hzv:z=(a:Int)+(v:Int)
          . have t2:(z == (a:Int)+(v:Int))=true:=by simpa using hzv
            have hbf:bb=false:=by
             rw [<- hl2,hzv];simp
            subst hbf;clear hl2 hd hzr hc' hz
            go_wp2_with (go_at_call 124;(try rw [s5]);refine (ze _ (Ext.refl _)).mono ?_;rintro e w6 ⟨rfl,E6⟩;have N6:=hZ (N.out.ext E6);have h06:=N6.out.h0;have h16:=N6.out.h1;rw [EM.out] at h16;have gz6:=(E6.cell hb' (o+(j+1))).trans gz)
            all_goals
             go_returns;exact ⟨rfl,E.out.trans E6⟩
          have t2:(z == (a:Int)+(v:Int))=false:=by simpa using hzv
          have hne:(z != ((a+v:Nat):Int))=true:=by
           simp;omega
          rw [hne,F5c,<- hd] at hl2;have HL2:=hZ hl2;clear hl2 hd hzr hc' hz hne
          go_wp2_with (go_at_call 124;(try rw [s5]);refine (ze _ (Ext.refl _)).mono ?_;rintro e w6 ⟨rfl,E6⟩;have N6:=hZ (N.out.ext E6);have h06:=N6.out.h0;have h16:=N6.out.h1;rw [EM.out] at h16;have gz6:=(E6.cell hb' (o+(j+1))).trans gz)
          all_goals
           go_roundg (m-(j+1))
           case measure=>omega
           case rel=>exact ⟨j+1,a+2,by omega,H0c _,by go_num,by go_num,by omega,HL2,hZ (E.out.trans E6)⟩
        have hd:G.drop (j+1)=[]:=s5b (by rw [EM.out];omega);have t1:decide ((j:Int)+1 < (m:Int))=false:=dF;have hl3:Hp.N1a S.words (G.drop (j+1)) (a+2)=bb:=by
         rw [hd] at hl2 ⊢
         simpa using hl2
        have HL3:=hZ hl3;clear hl2 hl3 hd hz
        go_wp2_with (go_at_call 124;(try rw [s5]);refine (ze _ (Ext.refl _)).mono ?_;rintro e w6 ⟨rfl,E6⟩;have N6:=hZ (N.out.ext E6);have h06:=N6.out.h0;have h16:=N6.out.h1;rw [EM.out] at h16)
        all_goals
         go_roundg (m-(j+1))
         case measure=>omega
         case rel=>exact ⟨j+1,a+2,by omega,H0c _,by go_num,by go_num,by omega,HL3,hZ (E.out.trans E6)⟩
     have t0:(y != (a:Int))=true:=by simpa using hya
     have hbf:bb=false:=by
      rw [<- HLL.out];have:(some y == some (a:Int))=false:=by simpa using hya
      rw [this];rfl
     subst hbf
     go_wp2_with fail
     go_returns;exact ⟨rfl,E.out⟩
   have:j=m:=by omega
   subst this;have hl:=HL.out;rw [s5b (by rw [EM.out];exact H0c _)] at hl;simp only [Hp.N1a,hy] at hl;have tk:decide ((j:Int) < (j:Int))=false:=dF;have hbe:(y == 0)=bb:=by
    rw [<- hl];simp
   clear hl hy
   go_wp2_with fail
   go_returns;exact ⟨by rw [<- hbe];rfl,E.out⟩
def Hp.W6b (W:List Int) (M:List (Nat × Int)) (x:Int):Bool:=match Hp.rd W (x.toNat+1),Hp.rd W (x.toNat+2) with
 | some u,some q=>u == (getI x.toNat M).getD 0 && decide (0<=q)
 | _,_=>false
theorem w0a {bu mu:Nat} {v:Value} {G:List Int} (h:LdAt w0 w lb d S v p k G)
    (hx:w.cell? ⟨bx,0,none⟩=some (.pointer (some ⟨lb,0,none⟩))) (hu:w.cell? ⟨bu,0,none⟩=some (.map (some mu))) (hm:G4a prog w mu M) (ha:a+2 < S.words.length) :
    Calls prog 131 #[.int .i64 a,.pointer (some ⟨bx,0,none⟩),.pointer (some ⟨bu,0,none⟩)] w (Rt w (.bool (Hp.W6b S.words M a))):=by
  have sm:=h.small;have h0:=h.h0;have c2:=h.c2;have le:=h.le;have cap:=h.cap;obtain ⟨y,hy⟩:=A4a (l:=S.words) (j:=a+1) (by omega);obtain ⟨q,hq⟩:=A4a (l:=S.words) (j:=a+2) ha;have gy:=h.words.get hy;have gq:=h.words.get hq;obtain ⟨u,hue⟩:∃ u,(getI a M).getD 0=u:=⟨_,rfl⟩
  have HLK:=hZ (fun W (hW:Ext w W)=>hue ▸ (hm.ext hW).look (t:=119) underlying3 underlying119 (zeroValue3 W) (k:=a) (by omega));have hr:Hp.W6b S.words M a=(y == u && decide (0<=q)):=by
   have e1:((a:Int)).toNat=a:=rfl;simp only [Hp.W6b,e1,hy,hq,hue]
  have e1:IntKind.i64.wrap ((a:Int)+1)=(a:Int)+1:=E4c _ (by omega);have e2:IntKind.i64.wrap ((a:Int)+2)=(a:Int)+2:=E4c _ (by omega);have f1:((a:Int)+1).toNat=a+1:=by omega
  have f2:((a:Int)+2).toNat=a+2:=by omega
  have zx:=cell_lt hx;have zu:=cell_lt hu;have zl:=cell_lt h0;have zh:=cell_lt c2;have zg:=cell_lt gy;rw [hr];generalize S.words.length=n at *;clear h hm hy hq hr hue;have b1:(0:Int)<=(a:Int)+1:=by omega
  have b2:(a:Int)+1 < (n:Int):=by omega
  have b3:(0:Int)<=(a:Int)+2:=by omega
  have b4:(a:Int)+2 < (n:Int):=by omega
  by_cases hyu:y=u
  . have t0:(y == u)=true:=by simpa using hyu
    rw [t0,F5c]
    by_cases hq0:0<=q
    . have t1:decide (q ≥ 0)=true:=E5c hq0;rw [E5c hq0];go_enter func131,ntmps131
      go_wp2_with fail
      have pr16a:=Ext.r hx;have pr16b:=Ext.r hu;have pr16c:=Ext.r h0;have pr16d:=Ext.r c2;have pr16e:=Ext.r gy;have pr16f:=Ext.r gq
      have pr16g:=fun u_ (h_:Ext w u_)=>HLK.out _ h_
      refine rg0 w ?_
      refine' tkd 0 ?_;refine' tkd 2 ?_;refine' tkd 4 ?_;refine' tkd 6 ?_;refine' tkd 8 ?_;refine' tkd 10 ?_;refine' tkd 12 ?_;refine' tkd 14 ?_;refine' tkd 16 ?_;refine' tkd 18 ?_;refine' tkd 20 ?_;refine' tkd 22 ?_;refine' tkd 24 ?_;refine' tkd 26 ?_;refine' tkd 28 ?_;refine A0a (by kernel_rfl) ?_ _;intro x1 _ Ex1;clear pr16a pr16b pr16c pr16d pr16e pr16f pr16g;go_wp2;go_returns;exact ⟨rfl,exx⟩
    have t1:decide (q ≥ 0)=false:=D7c hq0;rw [D7c hq0];go_enter func131,ntmps131
    go_wp2_with fail
    have pr17a:=Ext.r hx;have pr17b:=Ext.r hu;have pr17c:=Ext.r h0;have pr17d:=Ext.r c2;have pr17e:=Ext.r gy;have pr17f:=Ext.r gq
    have pr17g:=fun u_ (h_:Ext w u_)=>HLK.out _ h_
    refine rg0 w ?_
    refine' tkd 0 ?_;refine' tkd 2 ?_;refine' tkd 4 ?_;refine' tkd 6 ?_;refine' tkd 8 ?_;refine' tkd 10 ?_;refine' tkd 12 ?_;refine' tkd 14 ?_;refine' tkd 16 ?_;refine' tkd 18 ?_;refine' tkd 20 ?_;refine' tkd 22 ?_;refine' tkd 24 ?_;refine' tkd 26 ?_;refine' tkd 28 ?_;refine A0a (by kernel_rfl) ?_ _;intro x1 _ Ex1;clear pr17a pr17b pr17c pr17d pr17e pr17f pr17g;go_wp2;go_returns;exact ⟨rfl,exx⟩
  have t0:(y == u)=false:=by simpa using hyu
  rw [t0,E3c];go_enter func131,ntmps131
  go_wp2_with fail
  have pr18a:=Ext.r hx;have pr18b:=Ext.r hu;have pr18c:=Ext.r h0;have pr18d:=Ext.r c2;have pr18e:=Ext.r gy;have pr18f:=Ext.r gq
  have pr18g:=fun u_ (h_:Ext w u_)=>HLK.out _ h_
  refine rg0 w ?_
  refine' tkd 0 ?_;refine' tkd 2 ?_;refine' tkd 4 ?_;refine' tkd 6 ?_;refine' tkd 8 ?_;refine' tkd 10 ?_;refine' tkd 12 ?_;refine' tkd 14 ?_;refine' tkN 16 ?_;refine' tkN 17 ?_;refine' tkN 18 ?_;refine' tkN 19 ?_;refine' tkN 20 ?_;refine' tkN 21 ?_;refine' tkN 22 ?_;refine' tkN 23 ?_;refine' tkN 24 ?_;refine' tkN 25 ?_;refine' tkN 26 ?_;refine' tkN 27 ?_;refine' tkd 28 ?_;refine A0a (by kernel_rfl) ?_ _;intro x1 _ Ex1;clear pr18a pr18b pr18c pr18d pr18e pr18f pr18g;go_wp2;go_returns;exact ⟨rfl,exx⟩
def Hp.k1a (S:Hp.Hs) (r:Int) (x:Int):Bool:=S.has x && (match Hp.rd S.words x.toNat with | some t=>decide (Hp.rank S.order t > r) | none=>false)
end Go.Proofs.YtdokmmhjmclmnaaGreat
