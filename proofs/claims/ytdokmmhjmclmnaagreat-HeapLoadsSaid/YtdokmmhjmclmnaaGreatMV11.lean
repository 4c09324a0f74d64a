/-
  Part 11 of a proof: HLoadM HFn46 HFn47 HFn48 HFn45 LD1 LD5 LD2.
-/
import Derived.BigQuiet
import Derived.Test.YtdokmmhjmclmnaaGreatMV02
import Derived.Test.YtdokmmhjmclmnaaGreatMV04
import Derived.Test.YtdokmmhjmclmnaaGreatMV05
import Derived.Test.YtdokmmhjmclmnaaGreatMV09
import Derived.Test.YtdokmmhjmclmnaaGreatMV10
set_option linter.unusedSimpArgs false
set_option linter.unusedVariables false
set_option linter.unusedSectionVars false
set_option linter.unnecessarySimpa false
namespace Go.Proofs.YtdokmmhjmclmnaaGreat
variable {W' w w' w0 wb:World} {B a b base c cap ce cn f g gb i j k lb m n oc s sc:Nat} {choice t x:Int} {G W fs l o xs z:List Int} {L:List Hp.Tl} {S S':Hp.Hs} {A N T:List Nat} {M:List (Nat × Int)} {op p pe pn q sp:Option Addr} {d:Hd} {acts:List Hp.Act'}
open Go.RowKit
def Hp.Hs.walkFrom (S:Hp.Hs):Nat->Nat->List Nat->List Int->Option (Option (List Nat × List Int))
 | 0,_,_,_=>none
 | n+1,a,T,G=>
  if S.words.length<=a then some (some (T,G)) else do
  let t <- Hp.rd S.words a
  if t=0 then
   if S.words.length < a+3 then some none else do
   let v <- Hp.rd S.words (a+1)
   if 3<=v/\a+v<=S.words.length then S.walkFrom n (a+v.toNat) T (G ++ [(a:Int)]) else some none
  else if Hp.within 1 S.sizes.length t || Hp.isEnd t then do
   let k <- Hp.wide S.sizes t
   if a+k<=S.words.length then S.walkFrom n (a+k) (Hp.Hs.insert a T) G else some none
  else some none
structure LdAt (w0 w:World) (lb:Nat) (d:Hd) (S:Hp.Hs) (v:Value) (p:Option Addr) (k:Nat) (G:List Int):Prop extends HAt w d S where
 ext0:Ext w0 w
 h0:w.cell? ⟨lb,0,none⟩=some (.pointer (some ⟨d.hb,0,none⟩))
 h1:w.cell? ⟨lb,1,none⟩=some v
 fz:∀ k,w.frozen? ⟨lb,k,none⟩=false
 r:Row w 0 p k G
 lb0:w0.heap.size<=lb
 own0:∀ b ∈ d.own,w0.heap.size<=b
 lbn:lb ∉ d.own
 n:∀ b o,p=some ⟨b,o,none⟩->w0.heap.size<=b/\b ∉ d.own/\b ≠ lb
 spn:∀ b o,d.sp=some ⟨b,o,none⟩->b ≠ lb /\ ∀ o',p ≠ some ⟨b,o',none⟩
 opn:∀ b o,d.op=some ⟨b,o,none⟩->b ≠ lb /\ ∀ o',p ≠ some ⟨b,o',none⟩
namespace LdAt
variable {w0 w w':World} {lb:Nat} {d:Hd} {S:Hp.Hs} {v:Value} {p:Option Addr} {k:Nat} {G:List Int}
theorem lt1 (h:LdAt w0 w lb d S v p k G):lb < w.heap.size:=cell_lt h.h0
theorem ext (h:LdAt w0 w lb d S v p k G) (e:Ext w w'):LdAt w0 w' lb d S v p k G:=
 { h with
   toHAt:=h.toHAt.ext e
   ext0:=h.ext0.trans e
   h0:=(e.cell h.lt1 0).trans h.h0
   h1:=(e.cell h.lt1 1).trans h.h1
   fz:=fun j=>(e.frozen h.lt1 j).trans (h.fz j)
   r:=h.r.ext e }
theorem turn (h:LdAt w0 w lb d S v p k G) (e:But d.own w w') (h':HAt w' d S'):LdAt w0 w' lb d S' v p k G:=
 { toHAt:=h'
   ext0:=But.toExt h.ext0 e h.own0
   h0:=(e.cell h.lt1 h.lbn 0).trans h.h0
   h1:=(e.cell h.lt1 h.lbn 1).trans h.h1
   fz:=fun j=>(e.frozen h.lt1 h.lbn j).trans (h.fz j)
   r:=h.r.but_ e (fun b o q=>(h.n b o q).2.1)
   lb0:=h.lb0
   own0:=h.own0
   lbn:=h.lbn
   n:=h.n
   spn:=h.spn
   opn:=h.opn }
theorem mapped (h:LdAt w0 w lb d S v p k G) (e:w.mapTurned w' d.gm) (hm:MapAt Tryz.prog w' d.gm T) (hb:∀ a ∈ T,a < S.words.length):LdAt w0 w' lb d { S with taken:=T } v p k G:=
 h.turn ((But.refl _ _).turned e (.inl d.gm_own)) (h.toHAt.mapped e hm hb)
theorem grow (h:LdAt w0 w lb d S v p k G) {row:Option Nat} {G':List Int} (hR:Row w' 0 (some ⟨g,0,none⟩) cap G') (hG:w.grownBy w' row) (hrow:∀ r,row=some r->p=some ⟨r,0,none⟩) (hg:p=some ⟨g,0,none⟩ \/ g=w.heap.size) :
    LdAt w0 w' lb d S v (some ⟨g,0,none⟩) cap G':=by
  have kb:But row.toList w w':=⟨hG.os,hG.tape,hG.output,hG.size,fun i hi hn=>hG.block i hi (fun e=>hn (by rw [<- e];simp))⟩
  have far:∀ b,(∀ r,p=some ⟨r,0,none⟩->b ≠ r)->b ∉ row.toList:=fun b hb hm=>by
   have e:row=some b:=by simpa using hm
   exact hb b (hrow b e) rfl
  have own:∀ b ∈ d.own,b ∉ row.toList:=fun b hb=>far b fun r e er=>(h.n r 0 e).2.1 (er ▸ hb)
  have sbf:lb ∉ row.toList:=far lb fun r e er=>(h.n r 0 e).2.2 er.symm
  have e0:=h.ext0.le;have l1:=h.lt1;have og:=h.toHAt.own_lt;have new:w0.heap.size<=g/\g ∉ d.own/\g ≠ lb:=by
   rcases hg with e | rfl
   . exact h.n g 0 e
   exact ⟨e0,fun hm=>by have:=og _ hm;omega,by omega⟩
  exact
  { toHAt:=h.toHAt.but kb (own _ d.hb_own) (own _ d.gw_own) (own _ d.gm_own) (fun b o e=>far b fun r er e2=>(h.spn b o e).2 0 (e2 ▸ er)) (fun b o e=>far b fun r er e2=>(h.opn b o e).2 0 (e2 ▸ er))
    ext0:=h.ext0.grown hG (fun r e=>(h.n r 0 (hrow r e)).1)
    h0:=(kb.cell l1 sbf 0).trans h.h0
    h1:=(kb.cell l1 sbf 1).trans h.h1
    fz:=fun j=>(kb.frozen l1 sbf j).trans (h.fz j)
    r:=hR
    lb0:=h.lb0
    own0:=h.own0
    lbn:=h.lbn
    n:=fun b o e=>by cases e;exact new
    spn:=fun b o e=>⟨(h.spn b o e).1,fun o' e'=>by
     cases e'
     rcases hg with hg | rfl
     . exact (h.spn g o e).2 0 hg
     . have:=h.old1 _ o e;omega⟩
    opn:=fun b o e=>⟨(h.opn b o e).1,fun o' e'=>by
     cases e'
     rcases hg with hg | rfl
     . exact (h.opn g o e).2 0 hg
     . have:=h.old2 _ o e;omega⟩ }
theorem stored (h:LdAt w0 w lb d S v p k G):LdAt w0 (w.setCell ⟨lb,1,none⟩ (.slice p G.length k)) lb d S (.slice p G.length k) p k G:=by
 have e:But [lb] w (w.setCell ⟨lb,1,none⟩ (.slice p G.length k)):=(But.refl _ _).setCell (.inl (by simp)) _
 have o:∀ x ∈ d.own,x ∉ [lb]:=fun x hx hm=>by
  have:x=lb:=by simpa using hm
  subst this;exact h.lbn hx
 exact
 { toHAt:=h.toHAt.but e (o _ d.hb_own) (o _ d.gw_own) (o _ d.gm_own) (fun b o' q hm=>(h.spn b o' q).1 (by simpa using hm)) (fun b o' q hm=>(h.opn b o' q).1 (by simpa using hm))
   ext0:=Ext.setCell h.ext0 h.lb0 _
   h0:=by simpa [go_sem] using h.h0
   h1:=World.cell?_setCell_same _ _ _ h.h1
   fz:=fun j=>by simpa [go_sem] using h.fz j
   r:=h.r.but_ e (fun b o' q hm=>(h.n b o' q).2.2 (by simpa using hm))
   lb0:=h.lb0
   own0:=h.own0
   lbn:=h.lbn
   n:=h.n
   spn:=h.spn
   opn:=h.opn }
theorem cut {P:Program} {cd:Code} {Q:Exit->Act->World->Prop} {a:Act} (h:LdAt w0 w lb d S v p k G) (hk:∀ w',LdAt w0 w' lb d S v p k G->cd.wp P Q a w'):cd.wp P Q a w:=hk w h
end LdAt
theorem walkFrom_succ {R:Option (List Nat × List Int)} (h:S.walkFrom n a T G=some R) :
    (S.words.length<=a/\R=some (T,G)) \/ (a < S.words.length /\ ∃ n' t,n=n'+1/\Hp.rd S.words a=some t /\
     ((t=0/\S.words.length < a+3/\R=none) \/
      (t=0/\a+3<=S.words.length /\ ∃ v,Hp.rd S.words (a+1)=some v/\((3<=v/\a+v<=S.words.length/\S.walkFrom n' (a+v.toNat) T (G ++ [(a:Int)])=some R) \/ (¬ (3<=v/\a+v<=S.words.length)/\R=none))) \/
      (t ≠ 0/\(Hp.within 1 S.sizes.length t=true \/ Hp.isEnd t=true) /\ ∃ k,Hp.wide S.sizes t=some k/\((a+k<=S.words.length/\S.walkFrom n' (a+k) (Hp.Hs.insert a T) G=some R) \/ (¬ a+k<=S.words.length/\R=none))) \/
      (t ≠ 0/\Hp.within 1 S.sizes.length t=false/\Hp.isEnd t=false/\R=none))):=by
  cases n with
  | zero=>simp [Hp.Hs.walkFrom] at h
  | succ n=>
   unfold Hp.Hs.walkFrom at h
   split at h
   . rename_i hge;exact .inl ⟨hge,by simpa using h.symm⟩
   rename_i hlt;simp only [Option.bind_eq_bind,Option.bind_eq_some_iff] at h;obtain ⟨t,ht,h⟩:=h;refine .inr ⟨by omega,n,t,rfl,ht, ?_⟩
   split at h
   . rename_i h0
     split at h
     . rename_i h3;exact .inl ⟨h0,h3,by simpa using h.symm⟩
     rename_i h3;simp only [Option.bind_eq_some_iff] at h;obtain ⟨v,hv,h⟩:=h;refine .inr (.inl ⟨h0,by omega,v,hv, ?_⟩)
     split at h
     . rename_i h4;exact .inl ⟨h4.1,h4.2,h⟩
     rename_i h4;exact .inr ⟨h4,by simpa using h.symm⟩
   rename_i h0
   split at h
   . rename_i h1;simp only [Option.bind_eq_some_iff] at h;obtain ⟨k,hk,h⟩:=h;refine .inr (.inr (.inl ⟨h0,by simpa using h1,k,hk, ?_⟩))
     split at h
     . rename_i h4;exact .inl ⟨h4,h⟩
     rename_i h4;exact .inr ⟨h4,by simpa using h.symm⟩
   rename_i h1;simp only [Bool.or_eq_true,not_or,Bool.not_eq_true] at h1;exact .inr (.inr (.inr ⟨h0,h1.1,h1.2,by simpa using h.symm⟩))
open Go.RowKit Go.Maps
theorem wpList_append_own {w:World} {ops:Array Oper} {rest:List Oper} {o:Oper} {a:Act} {Q:Exit->Act->World->Prop} (hgd:o.guard=none) (s x:Operand)
    (ho:o.op = .call { callee:=.builtin .append,args:=#[s,x],argTypes:=#[22,22] }) {c b:Nat} {p:Option Addr} {l:List Int} {y:Int} (hs:a.eval s = .slice p l.length c) (hx:a.eval x = .slice (some ⟨b,0,none⟩) 1 1)
    (hrow:Row w 0 p c l) (hy:w.cell? ⟨b,0,none⟩=some (.int .i64 y)) (hy1 : -9223372036854775808<=y) (hy2:y<=9223372036854775807) (hlen:l.length < 10000000)
    (h:∀ g cap w' row,Row w' 0 (some ⟨g,0,none⟩) cap (l ++ [y])->w.grownBy w' row->(∀ r,row=some r->p=some ⟨r,0,none⟩)->(p=some ⟨g,0,none⟩ \/ g=w.heap.size)->g < w'.heap.size->wpList Tryz.prog ops Q rest (a.put o.dst (.slice (some ⟨g,0,none⟩) (l.length+1) cap)) w'):wpList Tryz.prog ops Q (o :: rest) a w:=by
  obtain ⟨i0,hi,hz0,hz1,hz2⟩:=info_parts (show (Tryz.prog.info? 3).map (fun i=>(i.zero,i.size,i.bytes))=some (some (.int .i64 0),1,8) from by kernel_rfl);refine wpList_append_lies w hgd s x 22 ho 0 3 i0 (.int .i64 0) 1 8 Tryz.underlying22 hi hz0 hz1 hz2 rfl (by decide) _ _ _ hs hrow.1 ⟨b,0,none⟩ 1 1 [.int .i64 y] hx (by simp) (fun j u hj=>?_) (by simp [Value.oneCell']) (by omega) (by unfold maxLen;omega) (by omega) (Nat.zero_le _) _ rfl ?_
  . cases j with
    | zero=>
     simp at hj;subst hj;rw [Addr.add_lit];exact hy
    | succ j=>simp at hj
  intro g cap w' hown hgrow hor hlt;have own:=row_own hrow;refine h g cap w' _ ⟨by simpa [ints] using hown,fun z hz=>?_⟩ hgrow own (hor.imp (own g) id) hlt
  rcases List.mem_append.1 hz with hz | hz
  . exact hrow.2 z hz
  have:z=y:=by simpa using hz
  subst this;exact ⟨hy1,hy2⟩
def LwPost (w0:World) (lb:Nat) (d:Hd) (S:Hp.Hs) (R:Option (List Nat × List Int)) (e:Ending) (w':World):Prop:=
 Ext w0 w'/\((R=none/\e = .returned (.bool false)) \/ ∃ T G p k,R=some (T,G)/\e = .returned (.bool true)/\LdAt w0 w' lb d { S with taken:=T } (.slice p G.length k) p k G)
set_option maxRecDepth 100000 in
set_option maxHeartbeats 16000000 in
theorem lwalk_any {R:Option (List Nat × List Int)} (h:LdAt w0 w lb d { S with taken:=[] } (.slice none 0 0) none 0 []) (hr:S.walkFrom S.fuel 17 [] []=some R) :
    Calls Tryz.prog 61 #[.pointer (some ⟨lb,0,none⟩)] w (LwPost w0 lb d S R):=by
  have sm:=h.small;obtain ⟨n,hn⟩:∃ n,S.words.length=n:=⟨_,rfl⟩
  have EN:=hZ hn;simp only at sm;rw [hn] at sm;have H:=hZ h;have HR:=hZ hr;clear h hr hn;go_enter Tryz.func61,Tryz.ntmps61
  go_wp2_with fail
  go_loopg [3] (S.fuel+1) (fun g i wr=>∃ (a m:Nat) (T:List Nat) (G:List Int) (p:Option Addr) (k:Nat),m+1<=g/\i = .int .i64 a/\a<=2000000/\G.length<=a/\Hid (LdAt w0 wr lb d { S with taken:=T } (.slice p G.length k) p k G)/\Hid (S.walkFrom m a T G=some R))
  case atStart=>exact ⟨17,S.fuel,[],[],none,0,Nat.le_refl _,rfl,by omega,by simp,H,HR⟩
  case round=>
   obtain ⟨a,m,T,G,p,k,hg,rfl,ha,hgl,N,HW⟩:=hrel;clear H HR;have h0:=N.out.h0;have c2:=N.out.c2;simp only at c2;rw [EN.out] at c2;have z0:=N.out.lt1;have zh:=N.out.lt
   rcases walkFrom_succ HW.out with ⟨hge,rfl⟩ | ⟨hlt,m',t,hm,ht,hq⟩
   . rw [EN.out] at hge;have tk:decide ((a:Int) < (n:Int))=false:=dF
     go_wp2_with fail
     go_returns;exact ⟨N.out.ext0,.inr ⟨T,G,p,k,rfl,rfl,N.out⟩⟩
   rw [EN.out] at hlt hq;have tk:decide ((a:Int) < (n:Int))=true:=dT;have HT:=hZ ht;have HQ:=hZ hq;have hle:=N.out.le;have hcap:=N.out.cap;simp only at hle;rw [EN.out] at hle;have bt:=N.out.words.bound ht;clear ht hq HW;have wl:IntKind.i64.wrap ((n:Int)-(a:Int))=(n:Int)-(a:Int):=IntWalk.i64_in _ (by omega);go_upto_region 3 with (fail)
   have pr15a:=fun u_ (h_:Ext wr u_)=>(h_.cell z0 0).trans h0
   have pr15b:=fun u_ (h_:Ext wr u_)=>(h_.cell zh 2).trans c2
   refine wp_region_seq (S:=fun W=>Ext wr W) (R:=Ext) (by kernel_rfl) Ext.refl ?_ ?_
   . exact exx
   refine' tkL 0 ?_;refine' tkL 1 ?_;refine' tkL 2 ?_;refine' tkL 3 ?_;refine' tkL 4 ?_;refine' tkL 5 ?_;refine' tkL 6 ?_;refine' tkL 7 ?_;refine' tkL 8 ?_;refine' tkL 9 ?_;refine' tkL 10 ?_;refine' tkL 11 ?_;refine' tkL 12 ?_;refine' tkL 13 ?_;refine' tkL 14 ?_;refine' tkC 15 (.int .i64 t) 76 (fun w hE=>tag_any (N.out.ext hE).c2 rfl N.out.le N.out.cap (N.out.ext hE).words HT.out) ?_;refine' tkL 16 ?_;refine' tkL 17 ?_;refine wpAnyR_done (by kernel_rfl) ?_ _;intro x1 _ Ex1;clear pr15a pr15b;have N1:=hZ (N.out.ext Ex1);clear h0 c2 z0 zh tk N Ex1
   rcases HQ.out with ⟨rfl,h3,rfl⟩ | ⟨rfl,h3,v,hv,hq⟩ | ⟨ht0,hor,kk,hkk,hq⟩ | ⟨ht0,hw,he,rfl⟩
   . have t1:decide ((n:Int)-(a:Int) < 3)=true:=dT
     go_wp2_with fail
     go_returns;exact ⟨N1.out.ext0,.inl ⟨rfl,rfl⟩⟩
   . have bv:=N1.out.words.bound hv;have gv:=N1.out.words.get hv;have lv:=rd_lt hv;rw [EN.out] at lv;have h0:=N1.out.h0;have h1:=N1.out.h1;have f1:=N1.out.fz 1;have c2:=N1.out.c2;simp only at c2;rw [EN.out] at c2;have t1:decide ((n:Int)-(a:Int) < 3)=false:=dF;have N2:=hZ (N1.out.ext (Ext.alloc (Ext.refl x1) (.cells #[.int .i64 (a:Int)] 3)));obtain ⟨bw,hbw⟩:∃ bw,Hp.within 3 ((n:Int)-(a:Int)) v=bw:=⟨_,rfl⟩
     have wi:∀ W:World,Calls Tryz.prog 105 #[.int .i64 3,.int .i64 ((n:Int)-(a:Int)),.int .i64 v] W fun e w'=>e = .returned (.bool bw)/\Ext W w':=fun W=>hbw ▸ within_any 3 ((n:Int)-(a:Int)) v W
     have HBW:=hZ hbw;have HQ2:=hZ hq;clear hv hq hbw HQ;go_upto_region 14 with (at_builtin;refine wpList_append_own rfl _ _ rfl (y:=(a:Int)) rfl rfl N2.out.r (by go_simp) (by omega) (by omega) (by omega) ?_;intro g8 c8 x8 row8 hR8 hG8 hrow8 hg8 hl8;have N3:=hZ (N2.out.grow hR8 hG8 hrow8 hg8);clear hR8 hG8 hrow8 hg8;have h03:=N3.out.h0;have h13:=N3.out.h1;have f13:=N3.out.fz 1)
     have N4:=hZ N3.out.stored;simp only [List.length_append,List.length_singleton] at N4;refine LdAt.cut N4.out ?_;clear N4 N3 N2 h03 h13 f13 h0 h1 f1 c2 gv;intro w5 N5';have N5:=hZ N5';clear N5'
     rcases HQ2.out with ⟨hv3,hvn,hrest⟩ | ⟨hno,rfl⟩
     . have hb:bw=true:=by
         rw [<- HBW.out];simp only [Hp.within,Bool.and_eq_true,decide_eq_true_eq];omega
       have HRE:=hZ hrest;clear hrest HQ2;subst hb;obtain ⟨vn,rfl⟩:∃ vn:Nat,v=vn:=⟨v.toNat,by omega⟩
       go_wp2_with (go_at_call 105;refine (wi _).mono ?_;rintro e w6 ⟨rfl,E6⟩;have N6:=hZ (N5.out.ext E6))
       go_roundg (m'+1)
       case measure=>omega
       case rel=>exact ⟨a+vn,m',T,G ++ [(a:Int)],some ⟨g8,0,none⟩,c8,Nat.le_refl _,by go_num,by omega,by simp;omega,hZ (by simpa using N6.out),hZ (by simpa using HRE.out)⟩
     have hb:bw=false:=by
      rw [<- HBW.out,Bool.eq_false_iff];intro h;simp only [Hp.within,Bool.and_eq_true,decide_eq_true_eq] at h;omega
     subst hb
     go_wp2_with (go_at_call 105;refine (wi _).mono ?_;rintro e w6 ⟨rfl,E6⟩;have N6:=hZ (N5.out.ext E6))
     go_returns;exact ⟨N6.out.ext0,.inl ⟨rfl,rfl⟩⟩
   . have t0:(t == 0)=false:=by simpa using ht0
     have wk:=wide_le N1.out.toHAt hkk;have HK:=hZ hkk;have HQ2:=hZ hq;have h0:=N1.out.h0;have c0:=N1.out.c0;have c1:=N1.out.c1;have c3:=N1.out.c3;have zl:=N1.out.lt1;have zh:=N1.out.lt;have HOR:=hZ hor;obtain ⟨bn,hbn⟩:∃ bn,Hp.within 1 S.sizes.length t=bn:=⟨_,rfl⟩
     have IN:∀ W:World,Calls Tryz.prog 122 #[.agg #[.slice d.sp S.sizes.length d.sc,.slice d.op S.order.length d.oc],.int .i64 t] W fun e w'=>e = .returned (.bool bn)/\Ext W w':=fun W=>hbn ▸ isNode_any d.sp d.op S.sizes.length d.sc S.order.length d.oc t W
     have HE:bn=false->Hp.isEnd t=true:=fun e=>by
      rcases hor with h | h
      . rw [hbn,e] at h
        cases h
      exact h
     have HEH:=hZ HE;simp only at c0 c1;clear hkk hq hor HQ HE hbn
     cases bn
     case' true=>go_upto_region 12 with (go_at_call 122;refine (IN _).mono ?_;rintro e w6 ⟨rfl,E6⟩;have NX:=hZ (N1.out.ext E6);have EX:=E6)
     case' false=>
      have HE2:=hZ (HEH.out rfl)
      go_upto_region 12 with (first
       | (go_at_call 122;refine (IN _).mono ?_;rintro e w6 ⟨rfl,E6⟩)
       | (go_at_call 78;refine (isEnd_is HE2.out _).mono ?_;rintro e w7 ⟨rfl,E7⟩;have NX:=hZ ((N1.out.ext E6).ext E7);have EX:=E6.trans E7))
     all_goals
      have h0':=NX.out.h0;have c0':=NX.out.c0;have c1':=NX.out.c1;simp only at c0' c1';clear h0 c0 c1 c3 IN;go_upto_region 13 with (go_at_call 123;refine (wide_any NX.out.sizes HK.out (by omega)).mono ?_;rintro e w8 ⟨rfl,E8⟩;have N8:=hZ (NX.out.ext E8);have h08:=N8.out.h0;have c38:=N8.out.c3)
      obtain ⟨w9,hup,hm9,ht9⟩:=N8.out.map.put (t:=102) Tryz.underlying3 Tryz.underlying4 Tryz.underlying102 (by have:=N8.out.taken_len;have:=N8.out.small;unfold maxLen;omega) (a:=a) (by omega);have N9:=hZ (N8.out.mapped ht9 hm9 (fun a' ha'=>by
       rcases (mem_ins a a' T).1 ha' with rfl | h'
       . simp only;rw [EN.out];exact hlt
       . exact N8.out.below a' h'))
      clear hm9 ht9 h0' c0' c1';obtain ⟨bw,hbw⟩:∃ bw,Hp.within 3 ((n:Int)-(a:Int)) kk=bw:=⟨_,rfl⟩
      have wi:∀ W:World,Calls Tryz.prog 105 #[.int .i64 3,.int .i64 ((n:Int)-(a:Int)),.int .i64 kk] W fun e w'=>e = .returned (.bool bw)/\Ext W w':=fun W=>hbw ▸ within_any 3 ((n:Int)-(a:Int)) kk W
      have HBW:=hZ hbw;clear hbw
      rcases HQ2.out with ⟨hvn,hrest⟩ | ⟨hno,rfl⟩
      . have hb:bw=true:=by
          rw [<- HBW.out];simp only [Hp.within,Bool.and_eq_true,decide_eq_true_eq];omega
        have HRE:=hZ hrest;clear hrest HQ2;subst hb
        go_wp2_with (go_at_call 105;refine (wi _).mono ?_;rintro e w11 ⟨rfl,E11⟩;have N11:=hZ (N9.out.ext E11))
        go_roundg (m'+1)
        case measure=>omega
        case rel=>exact ⟨a+kk,m',Hp.Hs.insert a T,G,p,k,Nat.le_refl _,by go_num,by omega,by omega,N11,HRE⟩
      have hb:bw=false:=by
       rw [<- HBW.out,Bool.eq_false_iff];intro h;simp only [Hp.within,Bool.and_eq_true,decide_eq_true_eq] at h;omega
      subst hb
      go_wp2_with (go_at_call 105;refine (wi _).mono ?_;rintro e w11 ⟨rfl,E11⟩;have N11:=hZ (N9.out.ext E11))
      go_returns;exact ⟨N11.out.ext0,.inl ⟨rfl,rfl⟩⟩
   have t0:(t == 0)=false:=by simpa using ht0
   have IN:∀ W:World,Calls Tryz.prog 122 #[.agg #[.slice d.sp S.sizes.length d.sc,.slice d.op S.order.length d.oc],.int .i64 t] W fun e w'=>e = .returned (.bool false)/\Ext W w':=fun W=>hw ▸ isNode_any d.sp d.op S.sizes.length d.sc S.order.length d.oc t W
   have h0:=N1.out.h0;have c0:=N1.out.c0;have c1:=N1.out.c1;simp only at c0 c1;have HE2:=hZ he;clear hw he
   go_wp2_with (first
    | (go_at_call 122;refine (IN _).mono ?_;rintro e w6 ⟨rfl,E6⟩)
    | (go_at_call 78;refine (isEnd_is HE2.out _).mono ?_;rintro e w7 ⟨rfl,E7⟩;have NX:=hZ ((N1.out.ext E6).ext E7)))
   go_returns;exact ⟨NX.out.ext0,.inl ⟨rfl,rfl⟩⟩
def Hp.rest (W:List Int) (a v:Nat):List Int:=(W.drop (a+3)).take (v-3)
def Hp.linkedB (W:List Int):List Int->Nat->Bool
 | [],link=>Hp.rd W link == some 0
 | x :: r,link=>
  let a:=x.toNat
  let v:=((Hp.rd W (a+1)).getD 0).toNat
  Hp.rd W link == some x && ((Hp.rest W a v).all (· == 0) && ((match r with | b :: _=>b != ((a+v:Nat):Int) | []=>true) && Hp.linkedB W r (a+2)))
def Gap (W:List Int) (x:Int):Prop:=∃ a v:Nat,x=a/\Hp.rd W (a+1)=some (v:Int)/\3<=v/\a+v<=W.length
theorem isZero_any (x:Int) (w:World):Calls Tryz.prog 125 #[.int .i64 x] w fun e w'=>e = .returned (.bool (x == 0))/\Ext w w':=by
 go_enter Tryz.func125,Tryz.ntmps125
 go_wp2
 go_returns
 exact ⟨rfl,exx⟩
theorem zeros_says:SaysAll w 125 #[] #[] l (fun x=>x == 0):=by
 intro j x _ _ W _
 have:=isZero_any x W
 simpa using this
theorem zeros_any {v:Nat} {b:Bool} (h:HAt w d S) (h3:3<=v) (hl:a+v<=S.words.length) (hq:q=some ⟨d.gw,a+3,none⟩ \/ v=3) (c:Nat) (hc:v-3<=c) (hc2:c<=9223372036854775807) (hb:(Hp.rest S.words a v).all (fun x=>x == 0)=b) :
    Calls Tryz.prog 124 #[.slice q (v-3) c,.func (.func 125) #[] #[]] w fun e w'=>e = .returned (.bool b)/\Ext w w':=by
  have hs:Hp.sub S.words (a+3) (v-3)=some (Hp.rest S.words a v):=by
   unfold Hp.sub Hp.rest;rw [if_pos (by omega)]
  obtain ⟨qq,ql,_⟩:=sub_at h hs c hc hc2;have qa:SliceAt w q c (Hp.rest S.words a v):=by
   rcases hq with rfl | rfl
   . exact qq
   have:Hp.rest S.words a 3=[]:=List.eq_nil_of_length_eq_zero ql;rw [this];exact ⟨by simp,hc2,by simp,fun h=>by simp at h⟩
  have:=every_any (enters_of Tryz.func125 (by kernel_rfl) rfl) qa zeros_says hb;rw [ql] at this;exact this
set_option maxRecDepth 100000 in
set_option maxHeartbeats 8000000 in
theorem isLinked_any (h:LdAt w0 w lb d S (.slice p G.length k) p k G) (hG:∀ x ∈ G,Gap S.words x) (hgl:G.length<=1000000) (h17:17<=S.words.length) {bb:Bool} (hbb:Hp.linkedB S.words G 16=bb) :
    Calls Tryz.prog 62 #[.pointer (some ⟨lb,0,none⟩)] w fun e w'=>e = .returned (.bool bb)/\Ext w w':=by
  have sm:=h.small;obtain ⟨n,hn⟩:∃ n,S.words.length=n:=⟨_,rfl⟩
  obtain ⟨m,hm⟩:∃ m,G.length=m:=⟨_,rfl⟩
  have EN:=hZ hn;have EM:=hZ hm;have h1:=h.h1;have H:=hZ h;have GH:=hZ hG;have HB:=hZ (show Hp.linkedB S.words (G.drop 0) 16=bb from hbb);have le:=h.r.at_.le;have cap:=h.r.at_.cap;rw [hn] at sm h17;rw [hm] at h1 hgl le;clear h hG hbb hn hm;go_enter Tryz.func62,Tryz.ntmps62
  go_wp2_with fail
  go_loopg [3,12] m (fun g l i wr=>∃ (j link:Nat),j<=m/\m-j<=g/\i = .int .i64 j/\l = .int .i64 link/\link < n/\Hid (Hp.linkedB S.words (G.drop j) link=bb)/\Hid (Ext w wr))
  case atStart=>exact ⟨0,16,Nat.zero_le _,by omega,rfl,rfl,by omega,HB,hZ (Ext.refl w)⟩
  case round=>
   obtain ⟨j,link,hj,hg,rfl,rfl,hlk,HL,E⟩:=hrel;clear HB;have N:=hZ (H.out.ext E.out);have h0:=N.out.h0;have c2:=N.out.c2;rw [EN.out] at c2;obtain ⟨y,hy⟩:=rd_get (l:=S.words) (j:=link) (by rw [EN.out];exact hlk);have gy:=N.out.words.get hy;have hle:=N.out.le;have hcap:=N.out.cap;rw [EN.out] at hle
   by_cases hlt:j < m
   . obtain ⟨x,hx⟩:=rd_get (l:=G) (j:=j) (by rw [EM.out];exact hlt);obtain ⟨a,v,rfl,hv,h3,hav⟩:=GH.out x (List.mem_of_getElem? hx);rw [EN.out] at hav;obtain ⟨b,o,hp,hb,hc⟩:=N.out.r.at_.cells (by rw [EM.out];omega);have gx:=hc j _ hx;have gv:=N.out.words.get hv;have tk:decide ((j:Int) < (m:Int))=true:=dT;have hl:=HL.out;rw [List.drop_eq_getElem_cons (by rw [EM.out];exact hlt)] at hl;have hxe:G[j]'(by rw [EM.out];exact hlt)=a:=by
      have:=hx;unfold Hp.rd at this;rw [List.getElem?_eq_getElem (by rw [EM.out];exact hlt)] at this;exact Option.some.inj this
     rw [hxe] at hl;simp only [Hp.linkedB,Int.toNat_natCast,hv,hy,Option.getD_some] at hl;have HLL:=hZ hl;have HX:=hZ hx;obtain ⟨bz,hbz⟩:∃ bz,(Hp.rest S.words a v).all (fun x=>x == 0)=bz:=⟨_,rfl⟩
     have ze:∀ W,Ext wr W->Calls Tryz.prog 124 #[.slice (if d.cap=a+3 then some ⟨d.gw,0,none⟩ else some ⟨d.gw,a+3,none⟩) (v-3) (d.cap-(a+3)),.func (.func 125) #[] #[]] W fun e w'=>e = .returned (.bool bz)/\Ext W w':=fun W hW=>
      zeros_any (N.out.ext hW).toHAt h3 (by rw [EN.out];omega) (by
       split
       . right;omega
       . left;rfl) _ (by omega) (by omega) hbz
     have HBZ:=hZ hbz;clear hc hx hl hxe hv hy hbz HL;subst hp
     by_cases hya:y=(a:Int)
     . have t0:(y != (a:Int))=false:=by simpa using hya
       have s1:(a:Int)+3<=(a:Int)+(v:Int):=by omega
       have s2:(a:Int)+(v:Int)<=(d.cap:Int):=by omega
       have s3:((a:Int)+(v:Int)).toNat-((a:Int)+3).toNat=v-3:=by omega
       have s4:((a:Int)+3).toNat=a+3:=by omega
       have s5:a+v-(a+3)=v-3:=by omega
       cases bz with
       | false=>
        have hbf:bb=false:=by
         rw [<- HLL.out];have:(Hp.rest S.words a v).all (· == 0)=false:=HBZ.out;rw [this];simp
        subst hbf
        go_wp2_with (go_at_call 124;(try rw [s5]);refine (ze _ (Ext.refl _)).mono ?_;rintro e w6 ⟨rfl,E6⟩)
        all_goals
         go_returns;exact ⟨rfl,E.out.trans E6⟩
       | true=>
        have hz:(Hp.rest S.words a v).all (· == 0)=true:=HBZ.out;have hl2:=HLL.out;rw [hz,hya] at hl2;simp only [beq_self_eq_true,Bool.true_and] at hl2
        by_cases hj1:j+1 < m
        . obtain ⟨z,hzr⟩:=rd_get (l:=G) (j:=j+1) (by rw [EM.out];exact hj1);obtain ⟨b',o',hp',hb',hc'⟩:=N.out.r.at_.cells (by rw [EM.out];omega)
          cases hp'
          have gz:=hc' (j+1) _ hzr;have hd:G.drop (j+1)=z :: G.drop (j+2):=by
           rw [List.drop_eq_getElem_cons (by rw [EM.out];exact hj1)];unfold Hp.rd at hzr;rw [List.getElem?_eq_getElem (by rw [EM.out];exact hj1)] at hzr;rw [Option.some.inj hzr]
          have t1:decide ((j:Int)+1 < (m:Int))=true:=dT;rw [hd] at hl2;simp only at hl2
          by_cases hzv:z=(a:Int)+(v:Int)
          . have t2:(z == (a:Int)+(v:Int))=true:=by simpa using hzv
            have hbf:bb=false:=by
             rw [<- hl2,hzv];simp
            subst hbf;clear hl2 hd hzr hc' hz
            go_wp2_with (go_at_call 124;(try rw [s5]);refine (ze _ (Ext.refl _)).mono ?_;rintro e w6 ⟨rfl,E6⟩;have N6:=hZ (N.out.ext E6);have h06:=N6.out.h0;have h16:=N6.out.h1;rw [EM.out] at h16;have gz6:=(E6.cell hb' (o+(j+1))).trans gz)
            all_goals
             go_returns;exact ⟨rfl,E.out.trans E6⟩
          have t2:(z == (a:Int)+(v:Int))=false:=by simpa using hzv
          have hne:(z != ((a+v:Nat):Int))=true:=by
           simp;omega
          rw [hne,Bool.true_and,<- hd] at hl2;have HL2:=hZ hl2;clear hl2 hd hzr hc' hz hne
          go_wp2_with (go_at_call 124;(try rw [s5]);refine (ze _ (Ext.refl _)).mono ?_;rintro e w6 ⟨rfl,E6⟩;have N6:=hZ (N.out.ext E6);have h06:=N6.out.h0;have h16:=N6.out.h1;rw [EM.out] at h16;have gz6:=(E6.cell hb' (o+(j+1))).trans gz)
          all_goals
           go_roundg (m-(j+1))
           case measure=>omega
           case rel=>exact ⟨j+1,a+2,by omega,Nat.le_refl _,by go_num,by go_num,by omega,HL2,hZ (E.out.trans E6)⟩
        have hd:G.drop (j+1)=[]:=List.drop_of_length_le (by rw [EM.out];omega);have t1:decide ((j:Int)+1 < (m:Int))=false:=dF;have hl3:Hp.linkedB S.words (G.drop (j+1)) (a+2)=bb:=by
         rw [hd] at hl2 ⊢
         simpa using hl2
        have HL3:=hZ hl3;clear hl2 hl3 hd hz
        go_wp2_with (go_at_call 124;(try rw [s5]);refine (ze _ (Ext.refl _)).mono ?_;rintro e w6 ⟨rfl,E6⟩;have N6:=hZ (N.out.ext E6);have h06:=N6.out.h0;have h16:=N6.out.h1;rw [EM.out] at h16)
        all_goals
         go_roundg (m-(j+1))
         case measure=>omega
         case rel=>exact ⟨j+1,a+2,by omega,Nat.le_refl _,by go_num,by go_num,by omega,HL3,hZ (E.out.trans E6)⟩
     have t0:(y != (a:Int))=true:=by simpa using hya
     have hbf:bb=false:=by
      rw [<- HLL.out];have:(some y == some (a:Int))=false:=by simpa using hya
      rw [this];rfl
     subst hbf
     go_wp2_with fail
     go_returns;exact ⟨rfl,E.out⟩
   have:j=m:=by omega
   subst this;have hl:=HL.out;rw [List.drop_of_length_le (by rw [EM.out];exact Nat.le_refl _)] at hl;simp only [Hp.linkedB,hy] at hl;have tk:decide ((j:Int) < (j:Int))=false:=dF;have hbe:(y == 0)=bb:=by
    rw [<- hl];simp
   clear hl hy
   go_wp2_with fail
   go_returns;exact ⟨by rw [<- hbe];rfl,E.out⟩
def Hp.usedB (W:List Int) (M:List (Nat × Int)) (x:Int):Bool:=match Hp.rd W (x.toNat+1),Hp.rd W (x.toNat+2) with
 | some u,some q=>u == (getI x.toNat M).getD 0 && decide (0<=q)
 | _,_=>false
set_option maxHeartbeats 4000000 in
theorem areUsed1_any {bx bu mu:Nat} {v:Value} (h:LdAt w0 w lb d S v p k G)
    (hx:w.cell? ⟨bx,0,none⟩=some (.pointer (some ⟨lb,0,none⟩))) (hu:w.cell? ⟨bu,0,none⟩=some (.map (some mu))) (hm:MapIAt Tryz.prog w mu M) (ha:a+2 < S.words.length) :
    Calls Tryz.prog 131 #[.int .i64 a,.pointer (some ⟨bx,0,none⟩),.pointer (some ⟨bu,0,none⟩)] w fun e w'=>e = .returned (.bool (Hp.usedB S.words M a))/\Ext w w':=by
  have sm:=h.small;have h0:=h.h0;have c2:=h.c2;have le:=h.le;have cap:=h.cap;obtain ⟨y,hy⟩:=rd_get (l:=S.words) (j:=a+1) (by omega);obtain ⟨q,hq⟩:=rd_get (l:=S.words) (j:=a+2) ha;have gy:=h.words.get hy;have gq:=h.words.get hq;obtain ⟨u,hue⟩:∃ u,(getI a M).getD 0=u:=⟨_,rfl⟩
  have HLK:=hZ (fun W (hW:Ext w W)=>hue ▸ (hm.ext hW).look (t:=119) Tryz.underlying3 Tryz.underlying119 (Tryz.zeroValue3 W) (k:=a) (by omega));have hr:Hp.usedB S.words M a=(y == u && decide (0<=q)):=by
   have e1:((a:Int)).toNat=a:=rfl;simp only [Hp.usedB,e1,hy,hq,hue]
  have e1:IntKind.i64.wrap ((a:Int)+1)=(a:Int)+1:=IntWalk.i64_in _ (by omega);have e2:IntKind.i64.wrap ((a:Int)+2)=(a:Int)+2:=IntWalk.i64_in _ (by omega);have f1:((a:Int)+1).toNat=a+1:=by omega
  have f2:((a:Int)+2).toNat=a+2:=by omega
  have zx:=cell_lt hx;have zu:=cell_lt hu;have zl:=cell_lt h0;have zh:=cell_lt c2;have zg:=cell_lt gy;rw [hr];generalize S.words.length=n at *;clear h hm hy hq hr hue;have b1:(0:Int)<=(a:Int)+1:=by omega
  have b2:(a:Int)+1 < (n:Int):=by omega
  have b3:(0:Int)<=(a:Int)+2:=by omega
  have b4:(a:Int)+2 < (n:Int):=by omega
  by_cases hyu:y=u
  . have t0:(y == u)=true:=by simpa using hyu
    rw [t0,Bool.true_and]
    by_cases hq0:0<=q
    . have t1:decide (q ≥ 0)=true:=decide_eq_true hq0;rw [decide_eq_true hq0];go_enter Tryz.func131,Tryz.ntmps131
      go_wp2_with fail
      have pr16a:=fun u_ (h_:Ext w u_)=>(h_.cell zx 0).trans hx
      have pr16b:=fun u_ (h_:Ext w u_)=>(h_.cell zu 0).trans hu
      have pr16c:=fun u_ (h_:Ext w u_)=>(h_.cell zl 0).trans h0
      have pr16d:=fun u_ (h_:Ext w u_)=>(h_.cell zh 2).trans c2
      have pr16e:=fun u_ (h_:Ext w u_)=>(h_.cell zg (a+1)).trans gy
      have pr16f:=fun u_ (h_:Ext w u_)=>(h_.cell zg (a+2)).trans gq
      have pr16g:=fun u_ (h_:Ext w u_)=>HLK.out _ h_
      refine wp_region_seq (S:=fun W=>Ext w W) (R:=Ext) (by kernel_rfl) Ext.refl ?_ ?_
      . exact exx
      refine' tkL 0 ?_;refine' tkL 1 ?_;refine' tkL 2 ?_;refine' tkL 3 ?_;refine' tkL 4 ?_;refine' tkL 5 ?_;refine' tkL 6 ?_;refine' tkL 7 ?_;refine' tkL 8 ?_;refine' tkL 9 ?_;refine' tkL 10 ?_;refine' tkL 11 ?_;refine' tkL 12 ?_;refine' tkL 13 ?_;refine' tkL 14 ?_;refine' tkL 15 ?_;refine' tkL 16 ?_;refine' tkL 17 ?_;refine' tkL 18 ?_;refine' tkL 19 ?_;refine' tkL 20 ?_;refine' tkL 21 ?_;refine' tkL 22 ?_;refine' tkL 23 ?_;refine' tkL 24 ?_;refine' tkL 25 ?_;refine' tkL 26 ?_;refine' tkL 27 ?_;refine' tkL 28 ?_;refine' tkL 29 ?_;refine wpAnyR_done (by kernel_rfl) ?_ _;intro x1 _ Ex1;clear pr16a pr16b pr16c pr16d pr16e pr16f pr16g;go_wp2;go_returns;exact ⟨rfl,exx⟩
    have t1:decide (q ≥ 0)=false:=decide_eq_false hq0;rw [decide_eq_false hq0];go_enter Tryz.func131,Tryz.ntmps131
    go_wp2_with fail
    have pr17a:=fun u_ (h_:Ext w u_)=>(h_.cell zx 0).trans hx
    have pr17b:=fun u_ (h_:Ext w u_)=>(h_.cell zu 0).trans hu
    have pr17c:=fun u_ (h_:Ext w u_)=>(h_.cell zl 0).trans h0
    have pr17d:=fun u_ (h_:Ext w u_)=>(h_.cell zh 2).trans c2
    have pr17e:=fun u_ (h_:Ext w u_)=>(h_.cell zg (a+1)).trans gy
    have pr17f:=fun u_ (h_:Ext w u_)=>(h_.cell zg (a+2)).trans gq
    have pr17g:=fun u_ (h_:Ext w u_)=>HLK.out _ h_
    refine wp_region_seq (S:=fun W=>Ext w W) (R:=Ext) (by kernel_rfl) Ext.refl ?_ ?_
    . exact exx
    refine' tkL 0 ?_;refine' tkL 1 ?_;refine' tkL 2 ?_;refine' tkL 3 ?_;refine' tkL 4 ?_;refine' tkL 5 ?_;refine' tkL 6 ?_;refine' tkL 7 ?_;refine' tkL 8 ?_;refine' tkL 9 ?_;refine' tkL 10 ?_;refine' tkL 11 ?_;refine' tkL 12 ?_;refine' tkL 13 ?_;refine' tkL 14 ?_;refine' tkL 15 ?_;refine' tkL 16 ?_;refine' tkL 17 ?_;refine' tkL 18 ?_;refine' tkL 19 ?_;refine' tkL 20 ?_;refine' tkL 21 ?_;refine' tkL 22 ?_;refine' tkL 23 ?_;refine' tkL 24 ?_;refine' tkL 25 ?_;refine' tkL 26 ?_;refine' tkL 27 ?_;refine' tkL 28 ?_;refine' tkL 29 ?_;refine wpAnyR_done (by kernel_rfl) ?_ _;intro x1 _ Ex1;clear pr17a pr17b pr17c pr17d pr17e pr17f pr17g;go_wp2;go_returns;exact ⟨rfl,exx⟩
  have t0:(y == u)=false:=by simpa using hyu
  rw [t0,Bool.false_and];go_enter Tryz.func131,Tryz.ntmps131
  go_wp2_with fail
  have pr18a:=fun u_ (h_:Ext w u_)=>(h_.cell zx 0).trans hx
  have pr18b:=fun u_ (h_:Ext w u_)=>(h_.cell zu 0).trans hu
  have pr18c:=fun u_ (h_:Ext w u_)=>(h_.cell zl 0).trans h0
  have pr18d:=fun u_ (h_:Ext w u_)=>(h_.cell zh 2).trans c2
  have pr18e:=fun u_ (h_:Ext w u_)=>(h_.cell zg (a+1)).trans gy
  have pr18f:=fun u_ (h_:Ext w u_)=>(h_.cell zg (a+2)).trans gq
  have pr18g:=fun u_ (h_:Ext w u_)=>HLK.out _ h_
  refine wp_region_seq (S:=fun W=>Ext w W) (R:=Ext) (by kernel_rfl) Ext.refl ?_ ?_
  . exact exx
  refine' tkL 0 ?_;refine' tkL 1 ?_;refine' tkL 2 ?_;refine' tkL 3 ?_;refine' tkL 4 ?_;refine' tkL 5 ?_;refine' tkL 6 ?_;refine' tkL 7 ?_;refine' tkL 8 ?_;refine' tkL 9 ?_;refine' tkL 10 ?_;refine' tkL 11 ?_;refine' tkL 12 ?_;refine' tkL 13 ?_;refine' tkL 14 ?_;refine' tkL 15 ?_;refine' tkN 16 ?_;refine' tkN 17 ?_;refine' tkN 18 ?_;refine' tkN 19 ?_;refine' tkN 20 ?_;refine' tkN 21 ?_;refine' tkN 22 ?_;refine' tkN 23 ?_;refine' tkN 24 ?_;refine' tkN 25 ?_;refine' tkN 26 ?_;refine' tkN 27 ?_;refine' tkL 28 ?_;refine' tkL 29 ?_;refine wpAnyR_done (by kernel_rfl) ?_ _;intro x1 _ Ex1;clear pr18a pr18b pr18c pr18d pr18e pr18f pr18g;go_wp2;go_returns;exact ⟨rfl,exx⟩
def Hp.laterB (S:Hp.Hs) (r:Int) (x:Int):Bool:=S.has x && (match Hp.rd S.words x.toNat with | some t=>decide (Hp.rank S.order t > r) | none=>false)
def ActIn (w:World) (b o:Nat) (x:Hp.Act'):Prop:=∃ q c f,ActOk x f/\w.cell? ⟨b,o,none⟩=some (.int .u8 x.kind)/\w.cell? ⟨b,o+1,none⟩=some (.int .i64 x.a)/\w.cell? ⟨b,o+2,none⟩=some (.slice q x.list.length c)/\w.cell? ⟨b,o+3,none⟩=some (.int .u8 f)/\w.cell? ⟨b,o+4,none⟩=some (.int .i64 x.n)/\SliceAt w q c x.list
structure ActsAt (w:World) (p:Option Addr) (c:Nat) (l:List Hp.Act'):Prop where
 le:l.length<=c
 cap:c<=9223372036854775807
 cells:0 < l.length -> ∃ b o,p=some ⟨b,o,none⟩/\b < w.heap.size /\ ∀ j x,l[j]? = some x->ActIn w b (o+j * 5) x
theorem ActsAt.ext {l:List Hp.Act'} (h:ActsAt w p c l) (k:Ext w w'):ActsAt w' p c l:=by
 refine ⟨h.le,h.cap,fun h0=>?_⟩
 obtain ⟨b,o,rfl,hb,hc⟩:=h.cells h0
 refine ⟨b,o,rfl,Nat.lt_of_lt_of_le hb k.le,fun j x hx=>?_⟩
 obtain ⟨q,c',f,ok,a0,a1,a2,a3,a4,hs⟩:=hc j x hx
 exact ⟨q,c',f,ok,(k.cell hb _).trans a0,(k.cell hb _).trans a1,(k.cell hb _).trans a2,(k.cell hb _).trans a3,(k.cell hb _).trans a4,hs.ext k⟩
structure RdN (w:World) (n:Nat) (p:Option Addr) (c:Nat) (X:List (List Value)):Prop where
 le:X.length<=c
 cap:c<=9223372036854775807
 cells:0 < X.length -> ∃ b o,p=some ⟨b,o,none⟩/\b < w.heap.size /\ ∀ j x i v,X[j]? = some x->x[i]? = some v->w.cell? ⟨b,o+(j * n+i),none⟩=some v
namespace RdN
variable {w w':World} {n c:Nat} {p:Option Addr} {X:List (List Value)}
theorem but (h:RdN w n p c X) {l:List Nat} (k:But l w w') (hf:∀ b o,p=some ⟨b,o,none⟩->b ∉ l):RdN w' n p c X:=by
 refine ⟨h.le,h.cap,fun h0=>?_⟩
 obtain ⟨b,o,rfl,hb,hc⟩:=h.cells h0
 exact ⟨b,o,rfl,Nat.lt_of_lt_of_le hb k.size,fun j x i v hx hv=>(k.cell hb (hf b o rfl) _).trans (hc j x i v hx hv)⟩
theorem ext (h:RdN w n p c X) (k:Ext w w'):RdN w' n p c X:=h.but (l:=[]) (But.ofExt k) (by simp)
end RdN
structure RowN (w:World) (n:Nat) (t:TypeId) (p:Option Addr) (c:Nat) (X:List (List Value)):Prop where
 own:w.ownsRow 0 t n (.slice p X.length c) X.length X.flatten
 len:∀ x ∈ X,x.length=n
theorem flatten_get {n:Nat}:∀ {X:List (List Value)} {j i:Nat} {x:List Value} {v:Value},(∀ x ∈ X,x.length=n)->X[j]? = some x->x[i]? = some v->X.flatten[j * n+i]? = some v
 | [],_,_,_,_,_,h,_=>by simp at h
 | y :: r,0,i,x,v,hl,hx,hv=>by
  simp only [List.getElem?_cons_zero,Option.some.injEq] at hx;subst hx;rw [List.flatten_cons,Nat.zero_mul,Nat.zero_add,List.getElem?_append_left (List.getElem?_eq_some_iff.1 hv).1];exact hv
 | y :: r,j+1,i,x,v,hl,hx,hv=>by
  have e:=hl y (by simp);rw [List.flatten_cons,List.getElem?_append_right (by rw [e,Nat.succ_mul];omega),e,show (j+1) * n+i-n=j * n+i by rw [Nat.succ_mul];omega];exact flatten_get (fun x hx=>hl x (by simp [hx])) (by simpa using hx) hv
namespace RowN
variable {w w':World} {n c:Nat} {t:TypeId} {p:Option Addr} {X:List (List Value)}
theorem nil (w:World) (n:Nat) (t:TypeId):RowN w n t none 0 []:=⟨World.ownsRow_nil w _ _ _,by simp⟩
theorem rd (h:RowN w n t p c X):RdN w n p c X:=by
 rcases h.own.2 with ⟨e,hz⟩ | ⟨g,cap,cur,e,hb,hg,r1,r2,r3,r4⟩
 . injection e with e1 e2 e3
   exact ⟨by omega,by omega,fun h0=>by omega⟩
 injection e with e1 e2 e3
 subst e1 e3
 refine ⟨r1,by unfold maxLen at r2;omega,fun _=>⟨g,0,rfl,(Array.getElem?_eq_some_iff.1 hg).1,fun j x i v hx hv=>?_⟩⟩
 have:=h.own.cells (g:=g) rfl (j * n+i) v (flatten_get h.len hx hv)
 rw [Addr.add_lit] at this
 exact this
theorem but (h:RowN w n t p c X) {l:List Nat} (k:But l w w') (hf:∀ b o,p=some ⟨b,o,none⟩->b ∉ l):RowN w' n t p c X:=by
 refine ⟨⟨h.own.1, ?_⟩,h.len⟩
 rcases h.own.2 with e | ⟨g,cap,cur,e,hb,hg,r⟩
 . exact .inl e
 refine .inr ⟨g,cap,cur,e,hb, ?_,r⟩
 have hl:=(Array.getElem?_eq_some_iff.1 hg).1
 have e1:p=some ⟨g,0,none⟩:=by
  injection e
 rw [k.block g hl (hf g 0 e1)]
 exact hg
theorem ext (h:RowN w n t p c X) (k:Ext w w'):RowN w' n t p c X:=h.but (l:=[]) (But.ofExt k) (by simp)
theorem own_blk (h:RowN w n t p c X):∀ r,(Value.slice p X.length c).ownBlock=some r->p=some ⟨r,0,none⟩:=fun r hr=>by
 rcases h.own.2 with ⟨e',_⟩ | ⟨g',cap',cur',e',_⟩
 . injection e' with e1
   subst e1;simp [Value.ownBlock] at hr
 injection e' with e1
 subst e1
 have:g'=r:=by simpa [Value.ownBlock] using hr
 rw [this]
end RowN
theorem wpList_append_N {w:World} {ops:Array Oper} {rest:List Oper} {o:Oper} {a:Act} {Q:Exit->Act->World->Prop} (hgd:o.guard=none) (s x:Operand) (T t:TypeId)
    (ho:o.op = .call { callee:=.builtin .append,args:=#[s,x],argTypes:=#[T,T] }) {z:Value} {n bytes:Nat} (hT:Tryz.prog.underlying T=some (.slice t)) (hinfo:(Tryz.prog.info? t).map (fun i=>(i.zero,i.size,i.bytes))=some (some z,n,bytes)) (hzn:z.cells.size=n) (hn0:0 < n) (hby:bytes<=1000)
    {c b m:Nat} {p:Option Addr} {X:List (List Value)} {y:List Value} (hm:X.length=m) (hs:a.eval s = .slice p m c) (hx:a.eval x = .slice (some ⟨b,0,none⟩) 1 1)
    (hrow:RowN w n t p c X) (hyl:y.length=n) (hy:∀ i v,y[i]? = some v->w.cell? ⟨b,i,none⟩=some v) (hone:∀ v ∈ y,v.oneCell'=true) (hlen:m < 10000000)
    (h:∀ g cap w' row,RowN w' n t (some ⟨g,0,none⟩) cap (X ++ [y])->w.grownBy w' row->(∀ r,row=some r->p=some ⟨r,0,none⟩)->(p=some ⟨g,0,none⟩ \/ g=w.heap.size)->g < w'.heap.size->wpList Tryz.prog ops Q rest (a.put o.dst (.slice (some ⟨g,0,none⟩) (m+1) cap)) w'):wpList Tryz.prog ops Q (o :: rest) a w:=by
  subst hm;obtain ⟨i0,hi,hz0,hz1,hz2⟩:=info_parts hinfo;refine wpList_append_lies w hgd s x T ho 0 t i0 z n bytes hT hi hz0 hz1 hz2 hzn hn0 _ _ _ hs hrow.own ⟨b,0,none⟩ 1 1 y hx (by rw [hyl,Nat.one_mul]) (fun j u hj=>?_) hone (by omega) (by unfold maxLen;omega) (Nat.le_trans (Nat.mul_le_mul (show X.length+1<=10000000 by omega) hby) (by decide)) (Nat.zero_le _) _ rfl ?_
  . rw [Addr.add_lit]
    simpa using hy j u hj
  intro g cap w' hown hgrow hor hlt;have own:=hrow.own_blk;refine h g cap w' _ ⟨by simpa using hown,fun u hu=>?_⟩ hgrow own (hor.imp (own g) id) hlt
  rcases List.mem_append.1 hu with hu | hu
  . exact hrow.len u hu
  rw [List.mem_singleton.1 hu];exact hyl
def blk:Option Addr->List Nat
 | some a=>[a.block]
 | none=>[]
theorem mem_blk {o:Nat} (e:p=some ⟨b,o,none⟩):b ∈ blk p:=by subst e;simp [blk]
def endC (v:Int × Int):List Value:=[.int .u8 v.1,.int .i64 v.2]
def nodeC (q:Int × List Int) (k:Option Addr × Nat):List Value:=[.int .i64 q.1,.slice k.1 q.2.length k.2]
structure DgL where
 ps:Option Addr
 cs:Nat
 po:Option Addr
 co:Nat
 pe:Option Addr
 ce:Nat
 pn:Option Addr
 cn:Nat
 K:List (Option Addr × Nat)
def DgL.blocks (L:DgL):List Nat:=blk L.ps ++ blk L.po ++ blk L.pe ++ blk L.pn ++ L.K.flatMap (fun k=>blk k.1)
def DgL.cells (L:DgL) (zs os es ns:Nat) (x:Int):Array Value:=#[.slice L.ps zs L.cs,.slice L.po os L.co,.slice L.pe es L.ce,.slice L.pn ns L.cn,.int .i64 x]
structure DgRd (w:World) (L:DgL) (z o:List Int) (E:List (Int × Int)) (N:List (Int × List Int)):Prop where
 s:SliceAt w L.ps L.cs z
 o:SliceAt w L.po L.co o
 e:RdN w 2 L.pe L.ce (E.map endC)
 n:RdN w 2 L.pn L.cn (List.zipWith nodeC N L.K)
 kl:L.K.length=N.length
 ks:∀ (j:Nat) (q:Int × List Int) (k:Option Addr × Nat),N[j]? = some q->L.K[j]? = some k->SliceAt w k.1 k.2 q.2
theorem DgRd.but {L:DgL} {E:List (Int × Int)} {N:List (Int × List Int)} (h:DgRd w L z o E N) {l:List Nat} (k:But l w w') (hl:∀ b ∈ l,b ∉ L.blocks):DgRd w' L z o E N:=by
 have key:∀ b,b ∈ L.blocks->b ∉ l:=fun b hb hm=>hl b hm hb
 refine ⟨h.s.but k fun b o e=>key b ?_,h.o.but k fun b o e=>key b ?_,h.e.but k fun b o e=>key b ?_,h.n.but k fun b o e=>key b ?_,h.kl,fun j q kk hq hk=>(h.ks j q kk hq hk).but k fun b o e=>key b ?_⟩
 all_goals simp only [DgL.blocks,List.mem_append,List.mem_flatMap]
 . exact .inl (.inl (.inl (.inl (mem_blk e))))
 . exact .inl (.inl (.inl (.inr (mem_blk e))))
 . exact .inl (.inl (.inr (mem_blk e)))
 . exact .inl (.inr (mem_blk e))
 exact .inr ⟨kk,List.mem_of_getElem? hk,mem_blk e⟩
theorem DgRd.ext {L:DgL} {E:List (Int × Int)} {N:List (Int × List Int)} (h:DgRd w L z o E N) (k:Ext w w'):DgRd w' L z o E N:=h.but (l:=[]) (But.ofExt k) (by simp)
open Go.RowKit Go.Maps
structure Dd where
 hb:Nat
 kb:Nat
 hx:Nat
 gd:Nat
 fb:Nat
 gk:Nat
 v0:Value
 v1:Value
 v4:Value
def Dd.dyn (i:Dd) (pe pn:Option Addr):List Nat:=i.gk :: i.gd :: (blk pe ++ blk pn)
def Dd.fixed (i:Dd):List Nat:=[i.kb,i.hx,i.fb]
def Dd.fv (i:Dd):Value:=.func (.func 81) #[] #[.pointer (some ⟨i.kb,0,none⟩),.pointer (some ⟨i.hx,0,none⟩),.pointer (some ⟨i.gd,0,none⟩),.pointer (some ⟨i.fb,0,none⟩)]
structure DgSt (wb w:World) (i:Dd) (D:Hp.Dg) (pe:Option Addr) (ce:Nat) (pn:Option Addr) (cn:Nat) (K:List (Nat × Nat)):Prop where
 ext:Ext wb w
 k:w.cell? ⟨i.kb,0,none⟩=some (.map (some i.gk))
 h:w.cell? ⟨i.hx,0,none⟩=some (.pointer (some ⟨i.hb,0,none⟩))
 f:w.cell? ⟨i.fb,0,none⟩=some i.fv
 d2:w.cell? ⟨i.gd,2,none⟩=some (.slice pe D.ends.length ce)
 d3:w.cell? ⟨i.gd,3,none⟩=some (.slice pn D.nodes.length cn)
 d0:w.cell? ⟨i.gd,0,none⟩=some i.v0
 d1:w.cell? ⟨i.gd,1,none⟩=some i.v1
 d4:w.cell? ⟨i.gd,4,none⟩=some i.v4
 z:∀ o,w.frozen? ⟨i.gd,o,none⟩=false
 z2:w.frozen? ⟨i.gd,2,none⟩=false
 z3:w.frozen? ⟨i.gd,3,none⟩=false
 map:MapIAt Tryz.prog w i.gk D.known
 er:RowN w 2 43 pe ce (D.ends.map endC)
 nr:RowN w 2 41 pn cn (List.zipWith (fun q k=>nodeC q (some ⟨k.1,0,none⟩,k.2)) D.nodes K)
 kl:K.length=D.nodes.length
 ks:∀ (j:Nat) (q:Int × List Int) (k:Nat × Nat),D.nodes[j]? = some q->K[j]? = some k->SliceAt w (some ⟨k.1,0,none⟩) k.2 q.2
 lo:∀ b ∈ i.fixed ++ i.dyn pe pn ++ K.map Prod.fst,wb.heap.size<=b/\b < w.heap.size
 fx:∀ b ∈ i.fixed,b ∉ i.dyn pe pn/\b ∉ K.map Prod.fst
 kx:∀ k ∈ K,k.1 ∉ i.dyn pe pn
 nd:i.gk ≠ i.gd/\i.gk ∉ blk pe/\i.gk ∉ blk pn/\i.gd ∉ blk pe/\i.gd ∉ blk pn /\ ∀ b ∈ blk pe,b ∉ blk pn
namespace DgSt
variable {wb w w':World} {i:Dd} {D:Hp.Dg} {pe pn:Option Addr} {ce cn:Nat} {K:List (Nat × Nat)}
theorem gk_dyn (i:Dd) (pe pn:Option Addr):i.gk ∈ i.dyn pe pn:=by simp [Dd.dyn]
theorem gd_dyn (i:Dd) (pe pn:Option Addr):i.gd ∈ i.dyn pe pn:=by simp [Dd.dyn]
theorem pe_dyn (i:Dd) (h:b ∈ blk pe):b ∈ i.dyn pe pn:=by simp [Dd.dyn,h]
theorem pn_dyn (i:Dd) (h:b ∈ blk pn):b ∈ i.dyn pe pn:=by simp [Dd.dyn,h]
theorem far (h:DgSt wb w i D pe ce pn cn K) {l:List Nat} (k:But l w w') (hw:∀ b ∈ l,wb.heap.size<=b) (hl:∀ b ∈ l,b ∉ i.fixed/\b ∉ i.dyn pe pn/\b ∉ K.map Prod.fst):DgSt wb w' i D pe ce pn cn K:=by
 have f1:∀ b ∈ i.fixed,b ∉ l:=fun b hb hm=>(hl b hm).1 hb
 have f2:∀ b ∈ i.dyn pe pn,b ∉ l:=fun b hb hm=>(hl b hm).2.1 hb
 have kk:i.kb ∉ l:=f1 _ (by simp [Dd.fixed])
 have kh:i.hx ∉ l:=f1 _ (by simp [Dd.fixed])
 have kf:i.fb ∉ l:=f1 _ (by simp [Dd.fixed])
 have kd:i.gd ∉ l:=f2 _ (gd_dyn _ _ _)
 exact
  { ext:=k.toExt h.ext hw
    k:=(k.cell (cell_lt h.k) kk 0).trans h.k
    h:=(k.cell (cell_lt h.h) kh 0).trans h.h
    f:=(k.cell (cell_lt h.f) kf 0).trans h.f
    d2:=(k.cell (cell_lt h.d2) kd 2).trans h.d2
    d3:=(k.cell (cell_lt h.d3) kd 3).trans h.d3
    d0:=(k.cell (cell_lt h.d2) kd 0).trans h.d0
    d1:=(k.cell (cell_lt h.d2) kd 1).trans h.d1
    d4:=(k.cell (cell_lt h.d2) kd 4).trans h.d4
    z:=fun o=>(k.frozen (cell_lt h.d2) kd o).trans (h.z o)
    z2:=(k.frozen (cell_lt h.d2) kd 2).trans h.z2
    z3:=(k.frozen (cell_lt h.d2) kd 3).trans h.z3
    map:=h.map.but k (f2 _ (gk_dyn _ _ _))
    er:=h.er.but k fun b o e=>f2 _ (pe_dyn _ (mem_blk e))
    nr:=h.nr.but k fun b o e=>f2 _ (pn_dyn _ (mem_blk e))
    kl:=h.kl
    ks:=fun j q kk hq hk=>(h.ks j q kk hq hk).but k fun b o e hm=>by
     cases e
     exact (hl _ hm).2.2 (List.mem_map.2 ⟨kk,List.mem_of_getElem? hk,rfl⟩)
    lo:=fun b hb=>⟨(h.lo b hb).1,Nat.lt_of_lt_of_le (h.lo b hb).2 k.size⟩
    fx:=h.fx
    kx:=h.kx
    nd:=h.nd }
theorem ext' (h:DgSt wb w i D pe ce pn cn K) (k:Ext w w'):DgSt wb w' i D pe ce pn cn K:=h.far (l:=[]) (But.ofExt k) (by simp) (by simp)
theorem known_ (h:DgSt wb w i D pe ce pn cn K) (k:But [i.gk] w w') (hm:MapIAt Tryz.prog w' i.gk M):DgSt wb w' i { D with known:=M } pe ce pn cn K:=by
 have hg:wb.heap.size<=i.gk:=(h.lo i.gk (by simp [Dd.dyn])).1
 have f1:∀ b ∈ i.fixed,b ∉ [i.gk]:=fun b hb hm=>by
  rw [List.mem_singleton.1 hm] at hb;exact (h.fx _ hb).1 (gk_dyn _ _ _)
 have kd:i.gd ∉ [i.gk]:=fun hm=>h.nd.1 (List.mem_singleton.1 hm).symm
 exact
  { ext:=k.toExt h.ext (fun b hb=>by rw [List.mem_singleton.1 hb];exact hg)
    k:=(k.cell (cell_lt h.k) (f1 _ (by simp [Dd.fixed])) 0).trans h.k
    h:=(k.cell (cell_lt h.h) (f1 _ (by simp [Dd.fixed])) 0).trans h.h
    f:=(k.cell (cell_lt h.f) (f1 _ (by simp [Dd.fixed])) 0).trans h.f
    d2:=(k.cell (cell_lt h.d2) kd 2).trans h.d2
    d3:=(k.cell (cell_lt h.d3) kd 3).trans h.d3
    d0:=(k.cell (cell_lt h.d2) kd 0).trans h.d0
    d1:=(k.cell (cell_lt h.d2) kd 1).trans h.d1
    d4:=(k.cell (cell_lt h.d2) kd 4).trans h.d4
    z:=fun o=>(k.frozen (cell_lt h.d2) kd o).trans (h.z o)
    z2:=(k.frozen (cell_lt h.d2) kd 2).trans h.z2
    z3:=(k.frozen (cell_lt h.d2) kd 3).trans h.z3
    map:=hm
    er:=h.er.but k fun b o e hm=>h.nd.2.1 (by rw [<- List.mem_singleton.1 hm];exact mem_blk e)
    nr:=h.nr.but k fun b o e hm=>h.nd.2.2.1 (by rw [<- List.mem_singleton.1 hm];exact mem_blk e)
    kl:=h.kl
    ks:=fun j q kk hq hk=>(h.ks j q kk hq hk).but k fun b o e hm=>by
     cases e
     have:=h.kx kk (List.mem_of_getElem? hk);rw [List.mem_singleton.1 hm] at this;exact this (gk_dyn _ _ _)
    lo:=fun b hb=>⟨(h.lo b hb).1,Nat.lt_of_lt_of_le (h.lo b hb).2 k.size⟩
    fx:=h.fx
    kx:=h.kx
    nd:=h.nd }
theorem grown (h:DgSt wb w i D pe ce pn cn K) {row:Option Nat} (hG:w.grownBy w' row) {p0:Option Addr} (hrow:∀ r,row=some r->p0=some ⟨r,0,none⟩) (o:Nat) (v:Value) :
    But (i.gd :: blk p0) w (w'.setCell ⟨i.gd,o,none⟩ v):=by
  have k1:But (i.gd :: blk p0) w w':=⟨hG.os,hG.tape,hG.output,hG.size,fun j hj hn=>hG.block j hj fun e=>hn (by rw [hrow j e.symm];simp [blk])⟩
  exact k1.setCell (.inl (by simp)) _
theorem store2 (h:DgSt wb w i D pe ce pn cn K) {row:Option Nat} (hG:w.grownBy w' row) (hrow:∀ r,row=some r->pe=some ⟨r,0,none⟩):w'.cell? ⟨i.gd,2,none⟩=some (.slice pe D.ends.length ce)/\w'.frozen? ⟨i.gd,2,none⟩=false:=by
 have k1:But (blk pe) w w':=⟨hG.os,hG.tape,hG.output,hG.size,fun j hj hn=>hG.block j hj fun e=>hn (by rw [hrow j e.symm];simp [blk])⟩
 exact ⟨(k1.cell (cell_lt h.d2) h.nd.2.2.2.1 2).trans h.d2,(k1.frozen (cell_lt h.d2) h.nd.2.2.2.1 2).trans h.z2⟩
theorem store3 (h:DgSt wb w i D pe ce pn cn K) {row:Option Nat} (hG:w.grownBy w' row) (hrow:∀ r,row=some r->pn=some ⟨r,0,none⟩):w'.cell? ⟨i.gd,3,none⟩=some (.slice pn D.nodes.length cn)/\w'.frozen? ⟨i.gd,3,none⟩=false:=by
 have k1:But (blk pn) w w':=⟨hG.os,hG.tape,hG.output,hG.size,fun j hj hn=>hG.block j hj fun e=>hn (by rw [hrow j e.symm];simp [blk])⟩
 exact ⟨(k1.cell (cell_lt h.d2) h.nd.2.2.2.2.1 3).trans h.d3,(k1.frozen (cell_lt h.d2) h.nd.2.2.2.2.1 3).trans h.z3⟩
theorem end_ (h:DgSt wb w i D pe ce pn cn K) {row:Option Nat} {v:Int × Int} (hR:RowN w' 2 43 (some ⟨g,0,none⟩) cap (D.ends.map endC ++ [endC v])) (hG:w.grownBy w' row) (hrow:∀ r,row=some r->pe=some ⟨r,0,none⟩) (hg:pe=some ⟨g,0,none⟩ \/ g=w.heap.size) (hlt:g < w'.heap.size) :
    DgSt wb (w'.setCell ⟨i.gd,2,none⟩ (.slice (some ⟨g,0,none⟩) (D.ends.length+1) cap)) i { D with ends:=D.ends ++ [v] } (some ⟨g,0,none⟩) cap pn cn K/\But (i.gd :: blk pe) w (w'.setCell ⟨i.gd,2,none⟩ (.slice (some ⟨g,0,none⟩) (D.ends.length+1) cap)):=by
  have kb:=h.grown hG hrow 2 (.slice (some ⟨g,0,none⟩) (D.ends.length+1) cap);refine ⟨?_,kb⟩;have k1:But (blk pe) w w':=⟨hG.os,hG.tape,hG.output,hG.size,fun j hj hn=>hG.block j hj fun e=>hn (by rw [hrow j e.symm];simp [blk])⟩
  have hd2:w'.cell? ⟨i.gd,2,none⟩=some (.slice pe D.ends.length ce):=by
   have k1:But (blk pe) w w':=⟨hG.os,hG.tape,hG.output,hG.size,fun j hj hn=>hG.block j hj fun e=>hn (by rw [hrow j e.symm];simp [blk])⟩
   exact (k1.cell (cell_lt h.d2) h.nd.2.2.2.1 2).trans h.d2
  have hz2:w'.frozen? ⟨i.gd,2,none⟩=false:=by
   have k1:But (blk pe) w w':=⟨hG.os,hG.tape,hG.output,hG.size,fun j hj hn=>hG.block j hj fun e=>hn (by rw [hrow j e.symm];simp [blk])⟩
   exact (k1.frozen (cell_lt h.d2) h.nd.2.2.2.1 2).trans h.z2
  have gnew:∀ b,b < w.heap.size->b ∉ blk pe->b ≠ g:=fun b hb hn e=>by
   subst e
   rcases hg with hg | hg
   . exact hn (by rw [hg];simp [blk])
   omega
  have hgd:=h.lo i.gd (by simp [Dd.dyn]);have hgk:=h.lo i.gk (by simp [Dd.dyn]);have notl:∀ b,b ≠ i.gd->b ∉ blk pe->b ∉ i.gd :: blk pe:=fun b h1 h2 hm=>by
   rcases List.mem_cons.1 hm with e | e
   . exact h1 e
   exact h2 e
  have fxl:∀ b ∈ i.fixed,b ∉ i.gd :: blk pe:=fun b hb=>notl b (fun e=>(h.fx b hb).1 (by rw [e];exact gd_dyn _ _ _)) (fun e=>(h.fx b hb).1 (pe_dyn _ e))
  have hw:wb.heap.size<=w.heap.size:=h.ext.le;have hww:=kb.size;have gkg:i.gk ≠ g:=gnew _ hgk.2 h.nd.2.1;have gdg:i.gd ≠ g:=gnew _ hgd.2 h.nd.2.2.2.1;have new:∀ b ∈ i.dyn (some ⟨g,0,none⟩) pn,b=g \/ b ∈ i.dyn pe pn:=fun b hb=>by
   simp only [Dd.dyn,blk,List.mem_cons,List.mem_append,List.not_mem_nil,or_false] at hb ⊢
   rcases hb with hb | hb | hb | hb
   . exact .inr (.inl hb)
   . exact .inr (.inr (.inl hb))
   . exact .inl hb
   exact .inr (.inr (.inr (.inr hb)))
  have klt:∀ k ∈ K,k.1 < w.heap.size:=fun k hk=>(h.lo k.1 (by simp only [List.mem_append,List.mem_map];exact .inr ⟨k,hk,rfl⟩)).2
  have sw:(w'.setCell ⟨i.gd,2,none⟩ (.slice (some ⟨g,0,none⟩) (D.ends.length+1) cap)).heap.size=w'.heap.size:=by simp [World.setCell]
  exact
   { ext:=kb.toExt h.ext fun b hb=>by
       rcases List.mem_cons.1 hb with rfl | hb
       . exact hgd.1
       exact (h.lo b (by simp only [List.mem_append];exact .inl (.inr (pe_dyn _ hb)))).1
     k:=(kb.cell (cell_lt h.k) (fxl _ (by simp [Dd.fixed])) 0).trans h.k
     h:=(kb.cell (cell_lt h.h) (fxl _ (by simp [Dd.fixed])) 0).trans h.h
     f:=(kb.cell (cell_lt h.f) (fxl _ (by simp [Dd.fixed])) 0).trans h.f
     d2:=by
      rw [List.length_append];simp [go_sem,hd2]
     d3:=by
      have:w'.cell? ⟨i.gd,3,none⟩=some (.slice pn D.nodes.length cn):=by
       have k1:But (blk pe) w w':=⟨hG.os,hG.tape,hG.output,hG.size,fun j hj hn=>hG.block j hj fun e=>hn (by rw [hrow j e.symm];simp [blk])⟩
       exact (k1.cell (cell_lt h.d2) h.nd.2.2.2.1 3).trans h.d3
      simp [go_sem,this]
     d0:=by
      have:=(k1.cell (cell_lt h.d2) h.nd.2.2.2.1 0).trans h.d0;simp [go_sem,this]
     d1:=by
      have:=(k1.cell (cell_lt h.d2) h.nd.2.2.2.1 1).trans h.d1;simp [go_sem,this]
     d4:=by
      have:=(k1.cell (cell_lt h.d2) h.nd.2.2.2.1 4).trans h.d4;simp [go_sem,this]
     z:=fun o=>by
      have:=(k1.frozen (cell_lt h.d2) h.nd.2.2.2.1 o).trans (h.z o);simp [go_sem,this]
     z2:=by simp [go_sem,hz2]
     z3:=by
      have:w'.frozen? ⟨i.gd,3,none⟩=false:=by
       have k1:But (blk pe) w w':=⟨hG.os,hG.tape,hG.output,hG.size,fun j hj hn=>hG.block j hj fun e=>hn (by rw [hrow j e.symm];simp [blk])⟩
       exact (k1.frozen (cell_lt h.d2) h.nd.2.2.2.1 3).trans h.z3
      simp [go_sem,this]
     map:=h.map.but kb (notl _ h.nd.1 h.nd.2.1)
     er:=by
      rw [show (D.ends ++ [v]).map endC=D.ends.map endC ++ [endC v] by simp];exact hR.but (l:=[i.gd]) ((But.refl _ _).setCell (.inl (by simp)) _) fun b o e hm=>by
       cases e
       exact gdg (List.mem_singleton.1 hm).symm
     nr:=h.nr.but kb fun b o e=>notl b (fun e'=>h.nd.2.2.2.2.1 (by rw [<- e'];exact mem_blk e)) (fun e'=>h.nd.2.2.2.2.2 b e' (mem_blk e))
     kl:=h.kl
     ks:=fun j q kk hq hk=>(h.ks j q kk hq hk).but kb fun b o e=>by
      cases e
      have:=h.kx kk (List.mem_of_getElem? hk);exact notl _ (fun e=>this (by rw [e];exact gd_dyn _ _ _)) (fun e=>this (pe_dyn _ e))
     lo:=fun b hb=>by
      rw [sw];simp only [List.mem_append] at hb
      rcases hb with (hb | hb) | hb
      . have:=h.lo b (by simp only [List.mem_append];exact .inl (.inl hb));exact ⟨this.1,Nat.lt_of_lt_of_le this.2 hG.size⟩
      . rcases new b hb with rfl | hb
        . rcases hg with hg | hg
          . have:=h.lo b (by simp only [List.mem_append];exact .inl (.inr (pe_dyn _ (mem_blk hg))));exact ⟨this.1,hlt⟩
          exact ⟨by omega,hlt⟩
        have:=h.lo b (by simp only [List.mem_append];exact .inl (.inr hb));exact ⟨this.1,Nat.lt_of_lt_of_le this.2 hG.size⟩
      have:=h.lo b (by simp only [List.mem_append];exact .inr hb);exact ⟨this.1,Nat.lt_of_lt_of_le this.2 hG.size⟩
     fx:=fun b hb=>⟨fun hm=>by
      rcases new b hm with e | hm
      . exact gnew b (h.lo b (by simp only [List.mem_append];exact .inl (.inl hb))).2 (fun e=>(h.fx b hb).1 (pe_dyn _ e)) e
      . exact (h.fx b hb).1 hm,(h.fx b hb).2⟩
     kx:=fun k hk hm=>by
      rcases new _ hm with e | hm
      . exact gnew _ (klt k hk) (fun e=>h.kx k hk (pe_dyn _ e)) e
      exact h.kx k hk hm
     nd:=⟨h.nd.1,by simpa [blk] using gkg,h.nd.2.2.1,by simpa [blk] using gdg,h.nd.2.2.2.2.1,fun b hb hm=>by
      have e:b=g:=by simpa [blk] using hb
      subst e
      rcases hg with hg | hg
      . exact h.nd.2.2.2.2.2 b (mem_blk hg) hm
      . have:=(h.lo b (by simp only [List.mem_append];exact .inl (.inr (pn_dyn _ hm)))).2;omega⟩ }
theorem node_ (h:DgSt wb w i D pe ce pn cn K) {g0 c0:Nat} {row:Option Nat} {q:Int × List Int} (hR:RowN w' 2 41 (some ⟨g,0,none⟩) cap (List.zipWith (fun q k=>nodeC q (some ⟨k.1,0,none⟩,k.2)) D.nodes K ++ [nodeC q (some ⟨g0,0,none⟩,c0)])) (hG:w.grownBy w' row) (hrow:∀ r,row=some r->pn=some ⟨r,0,none⟩) (hg:pn=some ⟨g,0,none⟩ \/ g=w.heap.size) (hlt:g < w'.heap.size)
    (hs:SliceAt w (some ⟨g0,0,none⟩) c0 q.2) (h0:wb.heap.size<=g0/\g0 < w.heap.size) (h1:g0 ∉ i.fixed) (h2:g0 ∉ i.dyn pe pn) :
    DgSt wb (w'.setCell ⟨i.gd,3,none⟩ (.slice (some ⟨g,0,none⟩) (D.nodes.length+1) cap)) i { D with nodes:=D.nodes ++ [q] } pe ce (some ⟨g,0,none⟩) cap (K ++ [(g0,c0)])/\But (i.gd :: blk pn) w (w'.setCell ⟨i.gd,3,none⟩ (.slice (some ⟨g,0,none⟩) (D.nodes.length+1) cap)):=by
  have kb:=h.grown hG hrow 3 (.slice (some ⟨g,0,none⟩) (D.nodes.length+1) cap);refine ⟨?_,kb⟩;have k1:But (blk pn) w w':=⟨hG.os,hG.tape,hG.output,hG.size,fun j hj hn=>hG.block j hj fun e=>hn (by rw [hrow j e.symm];simp [blk])⟩
  have hd3:w'.cell? ⟨i.gd,3,none⟩=some (.slice pn D.nodes.length cn):=(k1.cell (cell_lt h.d2) h.nd.2.2.2.2.1 3).trans h.d3;have hd2:w'.cell? ⟨i.gd,2,none⟩=some (.slice pe D.ends.length ce):=(k1.cell (cell_lt h.d2) h.nd.2.2.2.2.1 2).trans h.d2;have hz2:w'.frozen? ⟨i.gd,2,none⟩=false:=(k1.frozen (cell_lt h.d2) h.nd.2.2.2.2.1 2).trans h.z2;have hz3:w'.frozen? ⟨i.gd,3,none⟩=false:=(k1.frozen (cell_lt h.d2) h.nd.2.2.2.2.1 3).trans h.z3;have gnew:∀ b,b < w.heap.size->b ∉ blk pn->b ≠ g:=fun b hb hn e=>by
   subst e
   rcases hg with hg | hg
   . exact hn (by rw [hg];simp [blk])
   omega
  have hgd:=h.lo i.gd (by simp [Dd.dyn]);have hgk:=h.lo i.gk (by simp [Dd.dyn]);have notl:∀ b,b ≠ i.gd->b ∉ blk pn->b ∉ i.gd :: blk pn:=fun b h1 h2 hm=>by
   rcases List.mem_cons.1 hm with e | e
   . exact h1 e
   exact h2 e
  have fxl:∀ b ∈ i.fixed,b ∉ i.gd :: blk pn:=fun b hb=>notl b (fun e=>(h.fx b hb).1 (by rw [e];exact gd_dyn _ _ _)) (fun e=>(h.fx b hb).1 (pn_dyn _ e))
  have hw:wb.heap.size<=w.heap.size:=h.ext.le;have gkg:i.gk ≠ g:=gnew _ hgk.2 h.nd.2.2.1;have gdg:i.gd ≠ g:=gnew _ hgd.2 h.nd.2.2.2.2.1;have new:∀ b ∈ i.dyn pe (some ⟨g,0,none⟩),b=g \/ b ∈ i.dyn pe pn:=fun b hb=>by
   simp only [Dd.dyn,blk,List.mem_cons,List.mem_append,List.not_mem_nil,or_false] at hb ⊢
   rcases hb with hb | hb | hb | hb
   . exact .inr (.inl hb)
   . exact .inr (.inr (.inl hb))
   . exact .inr (.inr (.inr (.inl hb)))
   exact .inl hb
  have klt:∀ k ∈ K,k.1 < w.heap.size:=fun k hk=>(h.lo k.1 (by simp only [List.mem_append,List.mem_map];exact .inr ⟨k,hk,rfl⟩)).2
  have sw:(w'.setCell ⟨i.gd,3,none⟩ (.slice (some ⟨g,0,none⟩) (D.nodes.length+1) cap)).heap.size=w'.heap.size:=by simp [World.setCell]
  have g0l:g0 ∉ i.gd :: blk pn:=notl _ (fun e=>h2 (by rw [e];exact gd_dyn _ _ _)) (fun e=>h2 (pn_dyn _ e));have mk:∀ b ∈ (K ++ [(g0,c0)]).map Prod.fst,b=g0 \/ b ∈ K.map Prod.fst:=fun b hb=>by
   rw [List.map_append] at hb
   rcases List.mem_append.1 hb with hb | hb
   . exact .inr hb
   exact .inl (by simpa using hb)
  exact
   { ext:=kb.toExt h.ext fun b hb=>by
       rcases List.mem_cons.1 hb with rfl | hb
       . exact hgd.1
       exact (h.lo b (by simp only [List.mem_append];exact .inl (.inr (pn_dyn _ hb)))).1
     k:=(kb.cell (cell_lt h.k) (fxl _ (by simp [Dd.fixed])) 0).trans h.k
     h:=(kb.cell (cell_lt h.h) (fxl _ (by simp [Dd.fixed])) 0).trans h.h
     f:=(kb.cell (cell_lt h.f) (fxl _ (by simp [Dd.fixed])) 0).trans h.f
     d2:=by simp [go_sem,hd2]
     d3:=by
      rw [List.length_append];simp [go_sem,hd3]
     d0:=by
      have:=(k1.cell (cell_lt h.d2) h.nd.2.2.2.2.1 0).trans h.d0;simp [go_sem,this]
     d1:=by
      have:=(k1.cell (cell_lt h.d2) h.nd.2.2.2.2.1 1).trans h.d1;simp [go_sem,this]
     d4:=by
      have:=(k1.cell (cell_lt h.d2) h.nd.2.2.2.2.1 4).trans h.d4;simp [go_sem,this]
     z:=fun o=>by
      have:=(k1.frozen (cell_lt h.d2) h.nd.2.2.2.2.1 o).trans (h.z o);simp [go_sem,this]
     z2:=by simp [go_sem,hz2]
     z3:=by simp [go_sem,hz3]
     map:=h.map.but kb (notl _ h.nd.1 h.nd.2.2.1)
     er:=h.er.but kb fun b o e=>notl b (fun e'=>h.nd.2.2.2.1 (by rw [<- e'];exact mem_blk e)) (fun e'=>h.nd.2.2.2.2.2 b (mem_blk e) e')
     nr:=by
      rw [show List.zipWith (fun (q:Int × List Int) (k:Nat × Nat)=>nodeC q (some ⟨k.1,0,none⟩,k.2)) (D.nodes ++ [q]) (K ++ [(g0,c0)])=List.zipWith (fun q k=>nodeC q (some ⟨k.1,0,none⟩,k.2)) D.nodes K ++ [nodeC q (some ⟨g0,0,none⟩,c0)] by rw [List.zipWith_append h.kl.symm];rfl];exact hR.but (l:=[i.gd]) ((But.refl _ _).setCell (.inl (by simp)) _) fun b o e hm=>by
       cases e
       exact gdg (List.mem_singleton.1 hm).symm
     kl:=by simp [h.kl]
     ks:=fun j q' kk hq hk=>by
      by_cases hj:j < D.nodes.length
      . rw [List.getElem?_append_left hj] at hq;rw [List.getElem?_append_left (by rw [h.kl];exact hj)] at hk;refine (h.ks j q' kk hq hk).but kb fun b o e=>?_
        cases e
        have:=h.kx kk (List.mem_of_getElem? hk);exact notl _ (fun e=>this (by rw [e];exact gd_dyn _ _ _)) (fun e=>this (pn_dyn _ e))
      have ej:j=D.nodes.length:=by
       have:=(List.getElem?_eq_some_iff.1 hq).1;simp at this;omega
      subst ej;rw [List.getElem?_append_right (Nat.le_refl _),Nat.sub_self] at hq;rw [List.getElem?_append_right (by rw [h.kl];exact Nat.le_refl _),h.kl,Nat.sub_self] at hk
      cases hq
      cases hk
      exact hs.but kb fun b o e=>by
       cases e
       exact g0l
     lo:=fun b hb=>by
      rw [sw];simp only [List.mem_append] at hb
      rcases hb with (hb | hb) | hb
      . have:=h.lo b (by simp only [List.mem_append];exact .inl (.inl hb));exact ⟨this.1,Nat.lt_of_lt_of_le this.2 hG.size⟩
      . rcases new b hb with rfl | hb
        . rcases hg with hg | hg
          . have:=h.lo b (by simp only [List.mem_append];exact .inl (.inr (pn_dyn _ (mem_blk hg))));exact ⟨this.1,hlt⟩
          exact ⟨by omega,hlt⟩
        have:=h.lo b (by simp only [List.mem_append];exact .inl (.inr hb));exact ⟨this.1,Nat.lt_of_lt_of_le this.2 hG.size⟩
      rcases mk b hb with rfl | hb
      . exact ⟨h0.1,Nat.lt_of_lt_of_le h0.2 hG.size⟩
      have:=h.lo b (by simp only [List.mem_append];exact .inr hb);exact ⟨this.1,Nat.lt_of_lt_of_le this.2 hG.size⟩
     fx:=fun b hb=>⟨fun hm=>by
      rcases new b hm with e | hm
      . exact gnew b (h.lo b (by simp only [List.mem_append];exact .inl (.inl hb))).2 (fun e=>(h.fx b hb).1 (pn_dyn _ e)) e
      . exact (h.fx b hb).1 hm,fun hm=>by
      rcases mk b hm with rfl | hm
      . exact h1 hb
      . exact (h.fx b hb).2 hm⟩
     kx:=fun k hk hm=>by
      rcases List.mem_append.1 hk with hk | hk
      . rcases new _ hm with e | hm
        . exact gnew _ (klt k hk) (fun e=>h.kx k hk (pn_dyn _ e)) e
        exact h.kx k hk hm
      rw [List.mem_singleton.1 hk] at hm
      rcases new _ hm with e | hm
      . exact gnew _ h0.2 (fun e=>h2 (pn_dyn _ e)) e
      exact h2 hm
     nd:=⟨h.nd.1,h.nd.2.1,by simpa [blk] using gkg,h.nd.2.2.2.1,by simpa [blk] using gdg,fun b hb hm=>by
      have e:b=g:=by simpa [blk] using hm
      subst e
      rcases hg with hg | hg
      . exact h.nd.2.2.2.2.2 b hb (mem_blk hg)
      . have:=(h.lo b (by simp only [List.mem_append];exact .inl (.inr (pe_dyn _ hb)))).2;omega⟩ }
end DgSt
open Go.RowKit Go.Maps
theorem eq_val (a b a' b':Int) (u:World):Sem.run Tryz.prog (Op.equalIn 10000 43 (.agg #[.int .u8 a,.int .i64 b]) (.agg #[.int .u8 a',.int .i64 b'])) u = .ok (decide ((a,b)=(a',b'))) u:=by
 rw [show (10000:Nat)=9999+1 from rfl]
 rw [run_equalIn_agg u 9999 43 _ _ (by kernel_rfl) (by kernel_rfl)]
 go_simp
 by_cases h:a=a' <;> by_cases k:b=b' <;> simp [h,k]
theorem map_endC_get {E:List (Int × Int)} {v:Int × Int} (h:E[j]? = some v):(E.map endC)[j]? = some [.int .u8 v.1,.int .i64 v.2]:=by
 rw [List.getElem?_map,h]
 rfl
theorem RdN.end_cells {E:List (Int × Int)} (h:RdN w 2 p c (E.map endC)) (h0:0 < E.length):∃ b o,p=some ⟨b,o,none⟩/\b < w.heap.size /\ ∀ (j:Nat) (v:Int × Int),E[j]? = some v->w.cell? ⟨b,o+j * 2,none⟩=some (.int .u8 v.1)/\w.cell? ⟨b,o+j * 2+1,none⟩=some (.int .i64 v.2):=by
 obtain ⟨b,o,rfl,hb,hc⟩:=h.cells (by simpa using h0)
 refine ⟨b,o,rfl,hb,fun j v hv=>⟨?_, ?_⟩⟩
 . exact hc j _ 0 _ (map_endC_get hv) rfl
 exact hc j _ 1 _ (map_endC_get hv) rfl
theorem get_list {α:Type} {E:List α} (h:j < E.length):∃ v,E[j]? = some v:=⟨E[j],List.getElem?_eq_getElem h⟩
theorem list_eq_of_get {α:Type} {l m:List α} (hl:l.length=m.length) (h:∀ i,i < l.length->l[i]? = m[i]?):l=m:=by
 apply List.ext_getElem? 
 intro i
 by_cases hi:i < l.length
 . exact h i hi
 rw [List.getElem?_eq_none (by omega),List.getElem?_eq_none (by omega)]
set_option maxRecDepth 100000 in
set_option maxHeartbeats 4000000 in
theorem dAlike_any {d:Nat} {E F:List (Int × Int)} (h:RdN w 2 p c (E.map endC)) (k:RdN w 2 q d (F.map endC)) :
    Calls Tryz.prog 86 #[.slice p E.length c,.slice q F.length d] w fun e w'=>e = .returned (.bool (decide (E=F)))/\Ext w w':=by
  have hle:=h.le;have hcap:=h.cap;have hle':=k.le;have hcap':=k.cap;rw [List.length_map] at hle hle'
  by_cases hne:E.length=F.length
  case neg=>
   have e:decide (E=F)=false:=by
    apply decide_eq_false;intro e;exact hne (by rw [e])
   rw [e];clear h k e;generalize E.length=a at *;generalize F.length=b at *;have e1:((a:Int) == (b:Int))=false:=by simpa using (by omega:¬ (a:Int)=b)
   go_enter Tryz.func86,Tryz.ntmps86;go_wp2;go_returns;exact ⟨rfl,exx⟩
  case pos=>
   have H:=hZ h;have K:=hZ k;clear h k;rw [<- hne];have HM:=hZ hne;clear hne hle';generalize hL:E.length=n at hle ⊢;have HL:=hZ hL;clear hL;have mixed:Tryz.prog.follows .mixedOrders=true:=by kernel_rfl
   go_enter Tryz.func86,Tryz.ntmps86;go_wp2
   go_loopg [5] n (fun g i wr=>∃ j:Nat,j<=n/\n-j<=g/\i = .int .i64 j/\Aside (Ext w wr)/\Aside (∀ i,i < j->E[i]? = F[i]?))
   case atStart=>exact ⟨0,Nat.zero_le _,by omega,rfl,Ext.refl w,fun m hm=>absurd hm (Nat.not_lt_zero _)⟩
   case round=>
    obtain ⟨j,hj,hg,rfl,HE,HA⟩:=hrel
    by_cases hlt:j < n
    . obtain ⟨f,hf⟩:=get_list (E:=E) (j:=j) (by rw [HL.out];exact hlt);obtain ⟨f',hf'⟩:=get_list (E:=F) (j:=j) (by rw [<- HM.out,HL.out];exact hlt);obtain ⟨b,o,rfl,hb,hc⟩:=(H.out.ext HE.out).end_cells (by rw [HL.out];omega);obtain ⟨b',o',rfl,hb',hc'⟩:=(K.out.ext HE.out).end_cells (by rw [<- HM.out,HL.out];omega);obtain ⟨g1,g2⟩:=hc j f hf;obtain ⟨k1,k2⟩:=hc' j f' hf';have EQ:=fun u=>eq_val f.1 f.2 f'.1 f'.2 u
      have HF:=hZ hf;have HF':=hZ hf';clear hf hc hf' hc';obtain ⟨f1,f2⟩:=f;obtain ⟨f1',f2'⟩:=f'
      by_cases he:(f1,f2)=(f1',f2')
      . simp only [he,decide_true] at EQ
        cases he
        go_wp2_with fail
        go_region_o
        go_wp2
        go_roundg (n-(j+1))
        case measure=>omega
        case rel=>
         refine ⟨j+1,by omega,by omega,by go_num,(show Aside _ from HE.out.drew),(show Aside _ from fun i hi=>?_)⟩
         by_cases e:i=j
         . subst e;rw [HF.out,HF'.out]
         exact HA.out i (by omega)
      simp only [he,decide_false] at EQ
      go_wp2_with fail
      go_region_o
      go_wp2;go_returns;refine ⟨?_,HE.out.drew⟩;have e:decide (E=F)=false:=by
       apply decide_eq_false;rintro rfl;have:=HF.out;rw [HF'.out] at this
       cases this
       exact he rfl
      rw [e];rfl
    have:j=n:=by omega
    subst this;go_wp2;go_returns;refine ⟨?_,HE.out⟩;have e:decide (E=F)=true:=decide_eq_true (list_eq_of_get HM.out (by rw [HL.out];exact HA.out));rw [e];rfl
end Go.Proofs.YtdokmmhjmclmnaaGreat
