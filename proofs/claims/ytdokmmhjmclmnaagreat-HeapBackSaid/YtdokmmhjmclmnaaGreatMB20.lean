/-
  Part 20 of a proof: PL14 PL15 PL16 HFn54 LH1 PL18 PL19 PN2 PL31 PN3 PN6 PN4 PL20.
-/
import Derived.Test.YtdokmmhjmclmnaaGreatMB09
import Derived.Test.YtdokmmhjmclmnaaGreatMB13
import Derived.Test.YtdokmmhjmclmnaaGreatMB14
import Derived.Test.YtdokmmhjmclmnaaGreatMB17
import Derived.Test.YtdokmmhjmclmnaaGreatMB18
import Derived.Test.YtdokmmhjmclmnaaGreatMB19
set_option linter.unusedSimpArgs false
set_option linter.unusedVariables false
set_option linter.unusedSectionVars false
set_option linter.unnecessarySimpa false
namespace Go.Proofs.YtdokmmhjmclmnaaGreat
namespace Hp
def bef:Nat → List Tl → Nat → Nat
 | l,[],_=>l
 | l,_ :: _,0=>l
 | _,t :: r,i+1=>bef (t.a+2) r i
def freeOf (L:List Tl):List Tl:=L.filter fun t=>t.fr
theorem mem_freeOf {L:List Tl} {t:Tl}:t ∈ freeOf L ↔ t ∈ L ∧ t.fr=true:=by simp [freeOf]
theorem links_free {f:Nat → Int}:∀ {l:Nat} {L:List Tl},Links f l L 0 → (∀ i t,(freeOf L)[i]? = some t → f (bef l (freeOf L) i)=(t.a:Int)) ∧ f (bef l (freeOf L) (freeOf L).length)=0
 | l,[],h=>⟨by simp [freeOf],h⟩
 | l,t :: r,h=>by
  unfold Links at h
  cases hf:t.fr with
  | false=>
   rw [hf] at h;have e:freeOf (t :: r)=freeOf r:=by simp [freeOf,hf]
   rw [e];exact links_free (by simpa using h)
  | true=>
   rw [hf] at h;simp only [if_true] at h;have e:freeOf (t :: r)=t :: freeOf r:=by simp [freeOf,hf]
   obtain ⟨h1,h2⟩:=links_free h.2;rw [e];refine ⟨fun i u hu=>?_,h2⟩
   cases i with
   | zero=>
    have:t=u:=by simpa using hu
    subst this;exact h.1
   | succ i=>exact h1 i u (by simpa using hu)
theorem free_far:∀ {s n:Nat} {L:List Tl},Lay s L n → Sep L → (freeOf L).Pairwise fun t u=>t.a+t.k < u.a
 | _,_,[],_,_=>List.Pairwise.nil
 | s,n,t :: r,h,hs=>by
  obtain ⟨h1,h2,h3⟩:=h;have ih:=free_far h3 hs.tail
  cases hf:t.fr with
  | false=>
   have e:freeOf (t :: r)=freeOf r:=by simp [freeOf,hf]
   rw [e];exact ih
  | true=>
   have e:freeOf (t :: r)=t :: freeOf r:=by simp [freeOf,hf]
   rw [e];refine List.pairwise_cons.2 ⟨fun u hu=>?_,ih⟩;obtain ⟨hu1,hu2⟩:=mem_freeOf.1 hu
   cases r with
   | nil=>cases hu1
   | cons v r=>
    obtain ⟨q1,q2,q3⟩:=h3
    rcases List.mem_cons.1 hu1 with rfl | hu1
    · exact absurd ⟨hf,hu2⟩ hs.1
    · have:=q3.mem hu1;omega
structure Frees (f:Nat → Int) (n:Nat) (F:List Tl):Prop where
 link:∀ i t,F[i]? = some t → f (bef 16 F i)=(t.a:Int)
 last:f (bef 16 F F.length)=0
 part:∀ t ∈ F,17 ≤ t.a ∧ 3 ≤ t.k ∧ t.a+t.k ≤ n ∧ f t.a=0 ∧ f (t.a+1)=t.k ∧ ∀ j,t.a+3 ≤ j → j < t.a+t.k → f j=0
 far:∀ i t u,F[i]? = some t → F[i+1]? = some u → t.a+t.k < u.a
theorem Parts.frees {f:Nat → Int} {z:List Int} {L:List Tl} {n:Nat} (h:Parts f z L n):Frees f n (freeOf L) where
 link:=(links_free h.links).1
 last:=(links_free h.links).2
 part t ht:=by
  obtain ⟨h1,h2⟩:=mem_freeOf.1 ht;have:=h.lay.mem h1;have:=(h.ok t h1).free h2;exact ⟨by omega,by omega,by omega,this.1,this.2.1,this.2.2⟩
 far i t u h1 h2:=by
  have hp:=free_far h.lay h.sep;rw [List.pairwise_iff_getElem] at hp;obtain ⟨l1,e1⟩:=List.getElem?_eq_some_iff.1 h1;obtain ⟨l2,e2⟩:=List.getElem?_eq_some_iff.1 h2;have:=hp i (i+1) l1 l2 (by omega);rw [e1,e2] at this;exact this
end Hp
namespace Hp
def PathV (f:Nat → Int):Int → List Nat → Prop
 | x,[]=>x=0
 | x,a :: r=>x=(a:Int) ∧ a ≠ 0 ∧ PathV f (f (a+3)) r
theorem Path.v {f:Nat → Int}:∀ {l:Nat} {r:List Nat},Path f l r → PathV f (f l) r
 | _,[],h=>h
 | _,_ :: _,h=>⟨h.1,h.2.1,Path.v h.2.2⟩
end Hp
namespace Hp
theorem lay_len:∀ {s n:Nat} {L:List Tl},Lay s L n → s+3 * L.length ≤ n
 | _,_,[],h=>by have:_=_:=h;simp;omega
 | s,n,t :: r,h=>by
  have:=lay_len h.2.2;have:=h.2.1;simp only [List.length_cons];omega
theorem Wf.nodup {S:Hs} {B:Nat} {L:List Tl} {ch:Nat → List Nat} (h:Wf S B L ch):S.taken.Nodup:=h.up.imp fun h=>by omega
end Hp
open Go.RowKit Go.Maps
theorem Row.words {w:World} {base g c:Nat} {l:List Int} (h:Row w base (some ⟨g,0,none⟩) c l):WordsAt w g l ∧ l.length ≤ c ∧ c ≤ 9223372036854775807:=by
 rcases h.1 with ⟨hx,⟨e,_⟩ | ⟨g',cap,cur,e,h1,hg,h2,h3,h4,h5⟩⟩
 · injection e with e1
   cases e1
 · injection e with e1 e2 e3
   injection e1 with e1
   injection e1 with e1 _ _
   subst e1 e3;rw [Nat.mul_one] at h5;refine ⟨⟨⟨cur.toList.drop l.length, ?_⟩,h.2⟩,h2,by unfold maxLen at h3;omega⟩;rw [← h5,List.take_append_drop];exact hg
def IntsPost (w:World) (l:List Int) (e:Ending) (w':World):Prop:=∃ p c,e = .returned (.slice p l.length c) ∧ Row w' w.heap.size p c l ∧ Ext w w' ∧ (0 < l.length ∨ p=none)
set_option maxHeartbeats 4000000 in
theorem ints_any {w:World} {p:Option Addr} {c:Nat} {l:List Int} (h:SliceAt w p c l) (hp:p=none → c=0) (hl:l.length ≤ 1000000) :
    Calls Tryz.prog 17 #[.slice p l.length c] w (IntsPost w l):=by
  obtain ⟨i0,hi,hz0,hz1,hz2⟩:=info_parts (show (Tryz.prog.info? 3).map (fun i=>(i.zero,i.size,i.bytes))=some (some (.int .i64 0),1,8) from by kernel_rfl);have main:∀ ad:Addr,p=some ad → (∀ j u,(ints l)[j]? = some u → w.cell? (ad.add j)=some u) → Calls Tryz.prog 17 #[.slice p l.length c] w (IntsPost w l):=by
   rintro ad rfl hc;have HC:=Lib.hid hc;have WF:=Lib.hid h.wf;clear h hc hp;go_enter Tryz.func17,Tryz.ntmps17
   go_wp2_with (at_builtin;refine Go.wpList_append_own _ rfl _ _ 22 rfl w.heap.size 3 i0 (.int .i64 0) 1 8 Tryz.underlying22 hi hz0 hz1 hz2 rfl (by decide) _ 0 [] rfl (World.ownsRow_nil w _ _ _) ad l.length c (ints l) rfl ?qc1 ?qc2 ?qc3 ?qc4 ?qc5 ?qc6 ?_)
   case qc1=>simp [ints]
   case qc2=>exact HC.out
   case qc3=>intro u hu;obtain ⟨x,_,rfl⟩:=List.mem_map.1 hu;rfl
   case qc4=>unfold maxLen;omega
   case qc5=>omega
   case qc6=>omega
   intro v' w1 hown hgrow hnil;go_wp2;go_returns;have hE:Ext w w1:=((Below.refl _ w)).grown hgrow (by simp) (by intro k hk;simp [Value.ownBlock] at hk)
   rcases hown.2 with ⟨rfl,hz⟩ | ⟨g,cap,cur,rfl,h1,h2⟩
   · have hz':l.length=0:=by omega
     have:l=[]:=List.eq_nil_of_length_eq_zero hz';subst this;exact ⟨none,0,rfl,Row.nil _ _,hE,.inr rfl⟩
   · refine ⟨some ⟨g,0,none⟩,cap,by simp,⟨by simpa using hown,WF.out⟩,hE,.inl ?_⟩
     rcases Nat.eq_zero_or_pos l.length with h0 | h0
     · have:=hnil.2 (List.eq_nil_of_length_eq_zero h0)
       cases this
     · exact h0
  by_cases h0:0 < l.length
  · obtain ⟨b,o,rfl,hb,hc⟩:=h.cells h0;refine main _ rfl fun j u hj=>?_
    obtain ⟨hj1,hj2⟩:=List.getElem?_eq_some_iff.1 hj;have hj3:j < l.length:=by simpa [ints] using hj1
    rw [Addr.add_lit,hc j l[j] (List.getElem?_eq_getElem hj3),← hj2];simp [ints]
  · have hl0:l=[]:=List.eq_nil_of_length_eq_zero (by omega)
    cases p with
    | some ad=>exact main ad rfl fun j u hj=>by subst hl0;simp [ints] at hj
    | none=>
     have:=hp rfl;subst this hl0;clear h hp main h0;go_enter Tryz.func17,Tryz.ntmps17;go_wp2;go_returns;exact ⟨none,0,rfl,Row.nil _ _,exx,.inr rfl⟩
namespace Hp
def piecesOf (L:List Tl):List (Nat × Nat):=L.map fun t=>(t.a,t.k)
theorem Wf.pieces_from {S:Hs} {B:Nat} {L:List Tl} {ch:Nat → List Nat} (h:Wf S B L ch):∀ (P:List Tl) (m a:Nat),(∀ t ∈ P,t ∈ L) → Lay a P S.words.length → P.length < m → S.piecesFrom m a=some (piecesOf P)
 | _,0,_,_,_,hm=>by omega
 | [],m+1,a,_,hP,_=>by
  have e:a=S.words.length:=hP;unfold Hs.piecesFrom;rw [if_pos (by omega)];rfl
 | t :: P,m+1,a,hL,hP,hm=>by
  obtain ⟨e,hk,hP⟩:=hP;have ht:=hL t (by simp);have hle:=h.parts.lay.mem ht;have hok:=h.parts.ok t ht;have hhi:=h.hi;have ih:=Wf.pieces_from h P m (a+t.k) (fun u hu=>hL u (by simp [hu])) hP (by simpa using hm);unfold Hs.piecesFrom;rw [if_neg (by omega),rd_ow (by omega),tag_ow (by omega)];simp only [Option.bind_eq_bind,Option.bind_some];have key:(if ow S.words a=0 then adr (ow S.words (a+1)) else wide S.sizes (ow S.words a):Option Nat)=some t.k:=by
   cases hf:t.fr with
   | true=>
    obtain ⟨h1,h2,h3⟩:=hok.free hf;rw [e] at h1 h2;rw [if_pos h1,h2];simp [adr]
   | false=>
    obtain ⟨h1,h2⟩:=hok.cell hf;rw [e] at h1 h2;have hg:=okTag_le h.fr.toFr h1;rw [if_neg (by omega),(wz_ok h.fr.toFr h1).1,← h2]
  rw [key];simp only [Option.bind_some];rw [if_neg (by omega),ih];simp only [Option.bind_some,piecesOf,List.map_cons,e]
theorem Wf.pieces_ {S:Hs} {B:Nat} {L:List Tl} {ch:Nat → List Nat} (h:Wf S B L ch):S.piecesFrom S.fuel 17=some (piecesOf L):=by
 have:=lay_len h.parts.lay
 exact h.pieces_from L S.fuel 17 (fun _ ht=>ht) h.parts.lay (by unfold Hs.fuel;omega)
def freeSum:List Tl → Nat
 | []=>0
 | t :: r=>(if t.fr then t.k else 0)+freeSum r
def freeMax:Nat → List Tl → Nat
 | m,[]=>m
 | m,t :: r=>freeMax (if t.fr then max m t.k else m) r
theorem freeSum_of:∀ L:List Tl,freeSum L=((freeOf L).map Tl.k).sum
 | []=>rfl
 | t :: r=>by
  have ih:=freeSum_of r;unfold freeSum
  cases hf:t.fr with
  | true=>simp [freeOf,hf] at ih ⊢;omega
  | false=>simp [freeOf,hf] at ih ⊢;omega
theorem freeMax_of:∀ (m:Nat) (L:List Tl),freeMax m L=(freeOf L).foldl (fun m t=>max m t.k) m
 | _,[]=>rfl
 | m,t :: r=>by
  unfold freeMax;rw [freeMax_of]
  cases hf:t.fr with
  | true=>simp [freeOf,hf]
  | false=>simp [freeOf,hf]
theorem Wf.end_hit {S:Hs} {B:Nat} {L:List Tl} {ch:Nat → List Nat} (h:Wf S B L ch) {a:Nat} (ha:a ∈ S.taken) (he:isEnd (ow S.words a)=true):S.end' (ow S.words a-20) (ow S.words (a+4))=some ((a:Int),0,S):=by
 have hk:=h.cells.ends a ha he
 have pa:=h.part ha
 have ht:20 ≤ ow S.words a ∧ ow S.words a ≤ 24:=by simpa [isEnd,within] using he
 have hf:fz (ow S.words) S.sizes a=[ow S.words (a+4)]:=by simp [fz,wz,he,cut,List.range_succ]
 have hl:=look_hit h ha
 rw [hf] at hl
 unfold Hs.end'
 rw [if_neg (by simp [within];omega)]
 unfold Hs.add
 rw [show 20+(ow S.words a-20)=ow S.words a by omega,hl]
 simp only [Option.bind_eq_bind,Option.bind_some]
 rw [if_pos (by omega)]
 simp only [Option.bind_some,Hs.full]
 rw [if_neg (by omega)]
 rfl
theorem Wf.check_ok {S:Hs} {B:Nat} {L:List Tl} {ch:Nat → List Nat} (h:Wf S B L ch) {a:Nat} (ha:a ∈ S.taken) (he:isEnd (ow S.words a)=false):S.checkNode (ow S.words a-1) (fz (ow S.words) S.sizes a)=some 0:=by
 have hn:=isNode_of (h.cells.tags a ha) he
 have hz:=wz_ok h.fr.toFr (h.cells.tags a ha)
 have hpos:=h.fr.toFr.pos
 simp only [isNode,within,Bool.and_eq_true,decide_eq_true_eq] at hn
 obtain ⟨i,hi⟩:∃ i:Nat,ow S.words a-1=i:=⟨(ow S.words a-1).toNat,by omega⟩
 have hil:i < S.sizes.length:=by omega
 have hlen:((fz (ow S.words) S.sizes a).length:Int)=ow S.sizes i:=by
  rw [fz_length];have:wz S.sizes (ow S.words a)=4+(ow S.sizes i).toNat:=by
   unfold wz;rw [he,hi];simp [ow]
  have:=hpos (ow S.sizes i) (by simp [ow,List.getD,List.getElem?_eq_getElem hil]);omega
 have hk:∀ x ∈ fz (ow S.words) S.sizes a,∃ b ∈ S.taken,x=(b:Int) ∧ rank S.order (ow S.words a) < rank S.order (ow S.words b):=by
  intro x hx;have:kz (ow S.words) S.sizes a=fz (ow S.words) S.sizes a:=by simp [kz,he]
  exact h.cells.kids a ha x (by rw [this];exact hx)
 have hall:∀ x ∈ fz (ow S.words) S.sizes a,S.has x=true:=fun x hx=>by
  obtain ⟨b,hb,rfl,_⟩:=hk x hx;exact has_of hb
 obtain ⟨b,hb1,hb2⟩:=laters_total h (ow S.words a-1) _ hall
 have hbt:b=true:=hb2.2 fun x hx=>by
  obtain ⟨k,q1,q2,q3⟩:=hk x hx;exact ⟨k,q1,q2,by rw [show ow S.words a-1+1=ow S.words a by omega];exact q3⟩
 unfold Hs.checkNode
 rw [if_neg (by simp [within];omega),hi]
 simp only [Int.toNat_natCast]
 rw [rd_ow hil]
 simp only [Option.bind_eq_bind,Option.bind_some]
 rw [if_neg (by omega),if_neg (by simpa using hall),← hi,hb1,hbt]
 simp
theorem Wf.make_hit {S:Hs} {B:Nat} {L:List Tl} {ch:Nat → List Nat} (h:Wf S B L ch) {a:Nat} (ha:a ∈ S.taken) (he:isEnd (ow S.words a)=false) :
    S.make (ow S.words a-1) (fz (ow S.words) S.sizes a)=some ((a:Int),0,S) ∧ S.find (ow S.words a-1) (fz (ow S.words) S.sizes a)=some ((a:Int),0):=by
  have pa:=h.part ha;have hc:=h.check_ok ha he;have hl:=look_hit h ha;have hf:=h.cells.flat a ha he;constructor
  · unfold Hs.make;rw [hc];simp only [Option.bind_eq_bind,Option.bind_some];rw [if_neg (by simp),if_neg (by simp [hf])];unfold Hs.add;rw [show ow S.words a-1+1=ow S.words a by omega,hl];simp only [Option.bind_eq_bind,Option.bind_some];rw [if_pos (by omega)];simp only [Option.bind_some,Hs.full];rw [if_neg (by omega)];rfl
  · unfold Hs.find;rw [hc];simp only [Option.bind_eq_bind,Option.bind_some];rw [if_neg (by simp),if_neg (by simp [hf])];rw [show ow S.words a-1+1=ow S.words a by omega,hl];simp only [Option.bind_some];rw [if_neg (by omega)]
end Hp
namespace Hp
def OneFree (L:List Tl):Prop:=(freeOf L).length ≤ 1
theorem one_free {L:List Tl} (h:OneFree L):(freeOf L=[] ∧ freeSum L=0 ∧ freeMax 0 L=0) ∨ ∃ t ∈ L,t.fr=true ∧ freeOf L=[t] ∧ freeSum L=t.k ∧ freeMax 0 L=t.k:=by
 rw [freeSum_of,freeMax_of]
 unfold OneFree at h
 match hF:freeOf L,h with
 | [],_=>exact .inl ⟨rfl,rfl,rfl⟩
 | [t],_=>
  right;have ht:t ∈ freeOf L:=by rw [hF];simp
  obtain ⟨h1,h2⟩:=mem_freeOf.1 ht;exact ⟨t,h1,h2,rfl,by simp,by simp⟩
 | _ :: _ :: _,h=>simp at h
theorem live_le {S:Hs} {B:Nat} {L:List Tl} {ch:Nat → List Nat} (h:Wf S B L ch):∃ T,S.live=some T ∧ T.length ≤ S.taken.length:=by
 obtain ⟨T,hT,t1,t2,_⟩:=h.live_
 exact ⟨T,hT,nodup_len (up_nodup t1) t2⟩
theorem insert_len {x:Nat}:∀ {l:List Nat},x ∉ l → (Hs.insert x l).length=l.length+1
 | [],_=>rfl
 | y :: r,h=>by
  have h1:x ≠ y:=fun e=>h (by simp [e])
  have h2:x ∉ r:=fun e=>h (by simp [e])
  unfold Hs.insert
  split
  · simp
  · simp [h1,insert_len h2]
end Hp
namespace Hp
open Nd
theorem add_one {S:Hs} {B:Nat} {L:List Tl} {ch:Nat → List Nat} (h:Wf S B L ch) (h1:OneFree L) {t:Int} {fs:List Int} (hn:New S t fs) :
    (∃ a ∈ S.taken,ow S.words a=t ∧ fz (ow S.words) S.sizes a=fs ∧ S.add t fs=some (a,S)) ∨
    (∀ a ∈ S.taken,¬ (ow S.words a=t ∧ fz (ow S.words) S.sizes a=fs)) ∧
     (((freeSum L ≠ wz S.sizes t ∧ freeSum L < wz S.sizes t+3) ∧ S.add t fs=some (0,S)) ∨
      ∃ a S' L' ch',S.add t fs=some (a,S') ∧ 17 ≤ a ∧ Put S S' t fs a ∧ Wf S' B L' ch' ∧ OneFree L' ∧ freeSum L'+wz S.sizes t=freeSum L):=by
  have hw:=wz_ok h.fr.toFr hn.tag
  rcases add_wf h hn with ⟨a,ha,q1,q2,e⟩ | ⟨hno1,⟨hno,e⟩ | ⟨P,u,Q,S',hL,hP,hu,hfit,e,hp,hw'⟩⟩
  · exact .inl ⟨a,ha,q1,q2,e⟩
  · refine .inr ⟨hno1,.inl ⟨?_,e⟩⟩
    rcases one_free h1 with ⟨_,k1,_⟩ | ⟨t',ht,hf,_,k1,_⟩
    · omega
    · have:=hno t' ht hf;unfold Fits at this;omega
  · refine .inr ⟨hno1,.inr ?_⟩;generalize wz S.sizes t=k at *;have hul:u ∈ L:=by rw [hL];simp
    have hle:=h.parts.lay.mem hul;have hfo:freeOf L=freeOf P ++ u :: freeOf Q:=by rw [hL];simp [freeOf,hu]
    unfold OneFree at h1;rw [hfo] at h1;simp only [List.length_append,List.length_cons] at h1;have hP0:freeOf P=[]:=List.length_eq_zero_iff.1 (by omega);have hQ0:freeOf Q=[]:=List.length_eq_zero_iff.1 (by omega);have hsum:freeSum L=u.k:=by rw [freeSum_of,hfo,hP0,hQ0];simp
    have hfit':u.k=k ∨ k+3 ≤ u.k:=hfit;have hfr:freeOf (P ++ ⟨u.a,k,false⟩ :: ((if u.k=k then [] else [⟨u.a+k,u.k-k,true⟩]) ++ Q))=freeOf P ++ (freeOf (if u.k=k then [] else [⟨u.a+k,u.k-k,true⟩]) ++ freeOf Q):=by simp [freeOf]
    refine ⟨u.a,S',_,_,e,by omega,hp,hw', ?_, ?_⟩
    · unfold OneFree;rw [hfr,hP0,hQ0]
      split <;> simp [freeOf]
    · rw [freeSum_of,hfr,hP0,hQ0,hsum]
      split
      · simp [freeOf];omega
      · simp [freeOf];omega
end Hp
namespace Nd
open Hp
namespace Dia
def rk (d:Dia) (k:Int):Int:=if k < 0 then d.order.length else index d.order (d.nodeAt k.toNat).1
structure Loose (d:Dia):Prop where
 fr:FrOk d.sizes d.order
 ends:∀ v ∈ d.ends,0 ≤ v.1 ∧ v.1 ≤ 4 ∧ (0 < v.1 → v.2=0) ∧ -9999 ≤ v.2 ∧ v.2 ≤ 9999
 var:∀ q ∈ d.nodes,0 ≤ q.1 ∧ q.1 < d.sizes.length ∧ q.2.length=(d.sizes.getD q.1.toNat 0).toNat
 kids:∀ i,i < d.nodes.length → ∀ k ∈ (d.nodeAt i).2,d.Ref k i ∧ index d.order (d.nodeAt i).1 < d.rk k
 root:d.Ref d.root d.nodes.length
theorem Loose.low {d:Dia} (h:d.Loose):d.Low:=fun i hi k hk=>(h.kids i hi k hk).1
end Dia
def ad (A N:List Nat) (k:Int):Nat:=if k < 0 then A.getD (-1-k).toNat 0 else N.getD k.toNat 0
def toA (A N:List Int) (k:Int):Int:=if k < 0 then A.getD (-1-k).toNat 0 else N.getD k.toNat 0
def adsI (A:List Nat):List Int:=A.map fun a:Nat=>(a:Int)
theorem toA_nats (A N:List Nat) (k:Int):toA (adsI A) (adsI N) k=(ad A N k:Int):=by
 unfold toA ad adsI
 split
 · simp only [List.getD_eq_getElem?_getD,List.getElem?_map]
   cases A[(-1-k).toNat]? <;> rfl
 · simp only [List.getD_eq_getElem?_getD,List.getElem?_map]
   cases N[k.toNat]? <;> rfl
def putE:Hs → List (Int × Int) → List Int → Option (Int × List Int × Hs)
 | S,[],A=>some (0,A,S)
 | S,v :: r,A=>do
  let (a,e,S) ← S.end' v.1 v.2
  if e ≠ 0 then some (e,A,S) else putE S r (A ++ [a])
def putN (A:List Int):Hs → List (Int × List Int) → List Int → Option (Int × List Int × Hs)
 | S,[],N=>some (0,N,S)
 | S,q :: r,N=>do
  let (a,e,S) ← S.make q.1 (q.2.map (toA A N))
  if e ≠ 0 then some (e,N,S) else putN A S r (N ++ [a])
def put (d:Dia) (S:Hs):Option (Int × Int × Hs):=do
 let (e,A,S) ← putE S d.ends []
 if e ≠ 0 then some (0,e,S) else
 let (e,N,S) ← putN A S d.nodes []
 if e ≠ 0 then some (0,e,S) else some (toA A N d.root,0,S)
structure PutAt (d:Dia) (S:Hs) (A N:List Nat):Prop where
 sizes:S.sizes=d.sizes
 order:S.order=d.order
 al:A.length ≤ d.ends.length
 nl:N.length ≤ d.nodes.length
 all':N=[] ∨ A.length=d.ends.length
 ends:∀ i a,A[i]? = some a → a ∈ S.taken ∧ ow S.words a=20+(d.endAt i).1 ∧ ow S.words (a+4)=(d.endAt i).2
 nodes:∀ i a,N[i]? = some a → a ∈ S.taken ∧ ow S.words a=(d.nodeAt i).1+1 ∧ fz (ow S.words) S.sizes a=(d.nodeAt i).2.map fun k=>(ad A N k:Int)
structure PutIn (d:Dia) (B n:Nat) (S:Hs) (A N:List Nat):Prop extends PutAt d S A N where
 wf:∃ L ch,Wf S B L ch ∧ OneFree L ∧ n ≤ freeSum L+16 * (A.length+N.length)
 all:∀ a ∈ S.taken,a ∈ A ∨ a ∈ N
 many:S.taken.length=A.length+N.length
section
variable {d:Dia}
theorem endAt_mem {i:Nat} (h:i < d.ends.length):d.endAt i ∈ d.ends ∧ d.ends[i]? = some (d.endAt i):=by
 unfold Dia.endAt
 rw [List.getElem?_eq_getElem h]
 exact ⟨List.getElem_mem h,rfl⟩
theorem nodeAt_mem {i:Nat} (h:i < d.nodes.length):d.nodeAt i ∈ d.nodes ∧ d.nodes[i]? = some (d.nodeAt i):=by
 unfold Dia.nodeAt
 rw [List.getElem?_eq_getElem h]
 exact ⟨List.getElem_mem h,rfl⟩
theorem getD_of {A:List Nat} {i:Nat} (h:i < A.length):A[i]? = some (A.getD i 0):=by
 rw [List.getD_eq_getElem?_getD,List.getElem?_eq_getElem h];rfl
theorem PutAt.end_ {S:Hs} {A N:List Nat} (P:PutAt d S A N) {k:Int} (hk:k < 0) (h : -1-k < A.length):A[(-1-k).toNat]? = some (ad A N k):=by
 unfold ad
 rw [if_pos hk]
 exact getD_of (by omega)
theorem PutAt.node_ {S:Hs} {A N:List Nat} (P:PutAt d S A N) {k:Int} (hk:¬ k < 0) (h:k < N.length):N[k.toNat]? = some (ad A N k):=by
 unfold ad
 rw [if_neg hk]
 exact getD_of (by omega)
theorem isEnd_end (hL:d.Loose) {i:Nat} (h:i < d.ends.length):isEnd (20+(d.endAt i).1)=true:=by
 have:=hL.ends _ (endAt_mem h).1
 exact isEnd_of this.1 this.2.1
theorem small {z o:List Int} (h:FrOk z o):z.length ≤ 6:=h.toFr.few
theorem isEnd_node (hL:d.Loose) {i:Nat} (h:i < d.nodes.length):isEnd ((d.nodeAt i).1+1)=false:=by
 have h1:=hL.var _ (nodeAt_mem h).1
 have h2:=small hL.fr
 simp [isEnd,within]
 omega
theorem map_inj_on {α β:Type} {f:α → β}:∀ {l l':List α},(∀ x ∈ l,∀ y ∈ l',f x=f y → x=y) → l.map f=l'.map f → l=l'
 | [],[],_,_=>rfl
 | [],_ :: _,_,h=>by simp at h
 | _ :: _,[],_,h=>by simp at h
 | x :: l,y :: l',hi,h=>by
  simp only [List.map_cons,List.cons.injEq] at h;rw [hi x (by simp) y (by simp) h.1,map_inj_on (fun a ha b hb=>hi a (by simp [ha]) b (by simp [hb])) h.2]
theorem PutAt.inj {S:Hs} {A N:List Nat} (P:PutAt d S A N) (hL:d.Loose) (O:Once d) (hA:A.length=d.ends.length):∀ (n:Nat) (k k':Int),k < n → k < N.length → k' < N.length → -1-k < d.ends.length → -1-k' < d.ends.length → ad A N k=ad A N k' → k=k'
 | 0,k,k',h0,h1,h2,h3,h4,e=>by
  have hk:k < 0:=by omega
  have q1:=P.ends _ _ (P.end_ hk (by omega));have he:=isEnd_end hL (i:=(-1-k).toNat) (by omega)
  by_cases hk':k' < 0
  · have q2:=P.ends _ _ (P.end_ hk' (by omega));rw [← e] at q2;have:d.endAt (-1-k).toNat=d.endAt (-1-k').toNat:=by
     apply Prod.ext
     · have:=q1.2.1;have:=q2.2.1;omega
     · rw [← q1.2.2,← q2.2.2]
    have:=nodup_inj O.ends (endAt_mem (d:=d) (i:=(-1-k).toNat) (by omega)).2 (this ▸ (endAt_mem (d:=d) (i:=(-1-k').toNat) (by omega)).2);omega
  · have q2:=P.nodes _ _ (P.node_ hk' h2);have hn:=isEnd_node hL (i:=k'.toNat) (by have:=P.nl;omega);rw [← e,q1.2.1] at q2;rw [← q2.2.1,he] at hn
    cases hn
 | n+1,k,k',h0,h1,h2,h3,h4,e=>by
  by_cases hk:k < 0
  · exact PutAt.inj P hL O hA 0 k k' (by omega) h1 h2 h3 h4 e
  have q1:=P.nodes _ _ (P.node_ hk h1);have hn:=isEnd_node hL (i:=k.toNat) (by have:=P.nl;omega)
  by_cases hk':k' < 0
  · have q2:=P.ends _ _ (P.end_ hk' (by omega));have he:=isEnd_end hL (i:=(-1-k').toNat) (by omega);rw [← e,q1.2.1] at q2;rw [← q2.2.1,hn] at he
    cases he
  · have q2:=P.nodes _ _ (P.node_ hk' h2);rw [← e] at q2;have hkn:k.toNat < d.nodes.length:=by have:=P.nl;omega
    have hkn':k'.toNat < d.nodes.length:=by have:=P.nl;omega
    have hkids:(d.nodeAt k.toNat).2=(d.nodeAt k'.toNat).2:=by
     have hmap:=q1.2.2.symm.trans q2.2.2;refine map_inj_on (f:=fun k=>(ad A N k:Int)) ?_ hmap;intro x hx y hy exy;have r1:=hL.kids _ hkn x hx;have r2:=hL.kids _ hkn' y hy;exact PutAt.inj P hL O hA n x y (by have:=r1.1.1;omega) (by have:=r1.1.1;omega) (by have:=r2.1.1;omega) r1.1.2 r2.1.2 (by exact Int.ofNat.inj exy)
    have:d.nodeAt k.toNat=d.nodeAt k'.toNat:=Prod.ext (by have:=q1.2.1;have:=q2.2.1;omega) hkids;have:=nodup_inj O.nodes (nodeAt_mem hkn).2 (this ▸ (nodeAt_mem hkn').2);omega
end
end Nd
namespace Hp
end Hp
namespace Nd
open Hp
theorem check_new {S:Hs} {B:Nat} {L:List Tl} {ch:Nat → List Nat} (h:Wf S B L ch) {c:Int} {l:List Int} (h1:0 ≤ c ∧ c < S.sizes.length) (h2:(l.length:Int)=S.sizes.getD c.toNat 0) (h3:∀ x ∈ l,∃ k ∈ S.taken,x=(k:Int) ∧ rank S.order (c+1) < rank S.order (ow S.words k)):S.checkNode c l=some 0:=by
 have hall:∀ x ∈ l,S.has x=true:=fun x hx=>by
  obtain ⟨b,hb,rfl,_⟩:=h3 x hx;exact has_of hb
 obtain ⟨b,hb1,hb2⟩:=laters_total h c l hall
 have hbt:b=true:=hb2.2 h3
 have hc:c.toNat < S.sizes.length:=by omega
 unfold Hs.checkNode
 rw [if_neg (by simp [within];omega),rd_ow hc]
 simp only [Option.bind_eq_bind,Option.bind_some]
 rw [if_neg (by have:ow S.sizes c.toNat=S.sizes.getD c.toNat 0:=rfl;omega),if_neg (by simpa using hall),hb1,hbt]
 simp
theorem fz_one {f:Nat → Int} {z:List Int} {a:Nat} (h:isEnd (f a)=true):fz f z a=[f (a+4)]:=by
 simp [fz,wz,h,cut]
theorem same_end {S S':Hs} {z:List Int} {T:List Nat} (h:Same (ow S.words) (ow S'.words) z T) {a:Nat} (ha:a ∈ T) (he:isEnd (ow S.words a)=true):ow S'.words (a+4)=ow S.words (a+4):=by
 have:=(h a ha).2 0 (by simp [wz,he])
 simpa using this
variable {d:Dia}
theorem ad_right {A N:List Nat} {x:Nat} {k:Int} (h:k < N.length):ad A (N ++ [x]) k=ad A N k:=by
 unfold ad
 by_cases hk:k < 0
 · rw [if_pos hk,if_pos hk]
 · rw [if_neg hk,if_neg hk,List.getD_eq_getElem?_getD,List.getD_eq_getElem?_getD,List.getElem?_append_left (by omega)]
theorem PutIn.end_ {B n:Nat} {S:Hs} {A:List Nat} (P:PutIn d B n S A []) (hL:d.Loose) (O:Once d) (hA:A.length < d.ends.length) :
    (S.end' (d.endAt A.length).1 (d.endAt A.length).2=some (0,8,S) ∧ n < 8+16 * A.length) ∨
    ∃ (a:Nat) (S':Hs),S.end' (d.endAt A.length).1 (d.endAt A.length).2=some ((a:Int),0,S') ∧ PutIn d B n S' (A ++ [a]) []:=by
  obtain ⟨L,ch,hw,h1,hs⟩:=P.wf;have hv:=hL.ends _ (endAt_mem hA).1;obtain ⟨v1,v2,v3,v4,v5⟩:=hv;have he:=isEnd_end hL hA;have hn:New S (20+(d.endAt A.length).1) [(d.endAt A.length).2]:=new_end v1 v2 v3 v4 v5;have hwz:wz S.sizes (20+(d.endAt A.length).1)=5:=by simp [wz,he]
  have hend:∀ r,S.add (20+(d.endAt A.length).1) [(d.endAt A.length).2]=some r → S.end' (d.endAt A.length).1 (d.endAt A.length).2=some (Hs.full r):=fun r hr=>by
   unfold Hs.end';rw [if_neg (by simp [within];omega),hr];rfl
  rcases add_one hw h1 hn with ⟨a,ha,q1,q2,e⟩ | ⟨hno,⟨hfull,e⟩ | ⟨a,S',L',ch',e,ha,hp,hw',h1',hsum⟩⟩
  · exfalso
    rcases P.all a ha with hm | hm
    · obtain ⟨i,hi⟩:=List.mem_iff_getElem?.1 hm;have hil:i < A.length:=by
       rcases Nat.lt_or_ge i A.length with h | h
       · exact h
       · rw [List.getElem?_eq_none h] at hi
         cases hi
      obtain ⟨_,r1,r2⟩:=P.ends i a hi;have he':isEnd (ow S.words a)=true:=by rw [q1];exact he
      rw [fz_one he'] at q2;simp only [List.cons.injEq,and_true] at q2;have:d.endAt i=d.endAt A.length:=Prod.ext (by omega) (by omega);have:=nodup_inj O.ends (endAt_mem (i:=i) (by omega)).2 (this ▸ (endAt_mem hA).2);omega
    · cases hm
  · left;rw [hend _ e];refine ⟨by simp [Hs.full], ?_⟩;simp only [List.length_nil] at hs;omega
  · right;have hap:0 < a:=by omega
    refine ⟨a,S',by rw [hend _ e];simp only [Hs.full];rw [if_neg (by omega)], ?_⟩;refine ⟨⟨hp.sizes.trans P.sizes,hp.order.trans P.order,by simp;omega,by simp,.inl rfl,fun i b hi=>?_,fun i b hi=>by simp at hi⟩,⟨L',ch',hw',h1', ?_⟩,fun b hb=>?_, ?_⟩
    · rw [hp.taken]
      rcases Nat.lt_or_ge i A.length with h | h
      · rw [List.getElem?_append_left h] at hi;obtain ⟨r0,r1,r2⟩:=P.ends i b hi;have heb:isEnd (ow S.words b)=true:=by rw [r1];exact isEnd_end hL (by omega)
        refine ⟨(mem_ins _ _ _).2 (.inr r0), ?_, ?_⟩
        · rw [(hp.old b r0).1,r1]
        · rw [same_end hp.old r0 heb,r2]
      · rw [List.getElem?_append_right h] at hi;have hi0:i-A.length=0:=by
         rcases Nat.lt_or_ge (i-A.length) 1 with h | h
         · omega
         · rw [List.getElem?_eq_none (by simpa using h)] at hi
           cases hi
        rw [hi0] at hi;simp only [List.getElem?_cons_zero,Option.some.injEq] at hi;subst hi;have hia:i=A.length:=by omega
        subst hia;refine ⟨(mem_ins _ _ _).2 (.inl rfl),hp.tag, ?_⟩;have h4:=hp.fs;rw [fz_one (by rw [hp.tag];exact he)] at h4
        simpa using h4
    · simp only [List.length_append,List.length_cons,List.length_nil] at hs ⊢;omega
    · rw [hp.taken] at hb
      rcases (mem_ins _ _ _).1 hb with rfl | hb
      · exact .inl (by simp)
      · rcases P.all b hb with h | h
        · exact .inl (by simp [h])
        · exact .inr h
    · rw [hp.taken,insert_len hp.new,P.many];simp
theorem PutIn.node_ {B n:Nat} {S:Hs} {A N:List Nat} (P:PutIn d B n S A N) (hL:d.Loose) (O:Once d) (hA:A.length=d.ends.length) (hN:N.length < d.nodes.length) :
    (S.make (d.nodeAt N.length).1 ((d.nodeAt N.length).2.map fun k=>(ad A N k:Int))=some (0,8,S) ∧ n < 19+16 * (A.length+N.length)) ∨
    ∃ (a:Nat) (S':Hs),S.make (d.nodeAt N.length).1 ((d.nodeAt N.length).2.map fun k=>(ad A N k:Int))=some ((a:Int),0,S') ∧ PutIn d B n S' A (N ++ [a]):=by
  obtain ⟨L,ch,hw,h1,hs⟩:=P.wf;obtain ⟨v1,v2,v3⟩:=hL.var _ (nodeAt_mem hN).1;have hkid:=hL.kids _ hN;have he:=isEnd_node hL hN;have hz:(d.sizes.getD (d.nodeAt N.length).1.toNat 0) ∈ S.sizes:=by
   rw [P.sizes,List.getD_eq_getElem?_getD,List.getElem?_eq_getElem (by omega)];exact List.getElem_mem _
  have hpos:=hw.fr.toFr.pos _ hz;have h3:∀ x ∈ (d.nodeAt N.length).2.map (fun k=>(ad A N k:Int)),∃ k ∈ S.taken,x=(k:Int) ∧ rank S.order ((d.nodeAt N.length).1+1) < rank S.order (ow S.words k):=by
   intro x hx;obtain ⟨k,hk,rfl⟩:=List.mem_map.1 hx;obtain ⟨⟨r1,r2⟩,r3⟩:=hkid k hk;have hr0:rank S.order ((d.nodeAt N.length).1+1)=index d.order (d.nodeAt N.length).1:=by
    unfold rank;rw [he,P.order,show (d.nodeAt N.length).1+1-1=(d.nodeAt N.length).1 by omega];rfl
   unfold Dia.rk at r3
   by_cases hk0:k < 0
   · have q:=P.ends _ _ (P.toPutAt.end_ hk0 (by omega));refine ⟨_,q.1,rfl, ?_⟩;rw [hr0,q.2.1];unfold rank;rw [isEnd_end hL (by omega),P.order];rw [if_pos hk0] at r3
     simpa using r3
   · have q:=P.nodes _ _ (P.toPutAt.node_ hk0 (by omega));refine ⟨_,q.1,rfl, ?_⟩;rw [hr0,q.2.1];unfold rank;rw [isEnd_node hL (by omega),P.order,show (d.nodeAt k.toNat).1+1-1=(d.nodeAt k.toNat).1 by omega];rw [if_neg hk0] at r3
     simpa using r3
  have hck:S.checkNode (d.nodeAt N.length).1 ((d.nodeAt N.length).2.map fun k=>(ad A N k:Int))=some 0:=check_new hw (by rw [P.sizes];omega) (by rw [P.sizes,List.length_map];omega) h3;have hkn:∀ k ∈ (d.nodeAt N.length).2,k < N.length ∧ -1-k < d.ends.length:=fun k hk=>(hkid k hk).1
  have hflat:Hs.alike ((d.nodeAt N.length).2.map fun k=>(ad A N k:Int))=false:=by
   have hf:=O.flat _ (nodeAt_mem hN).1;generalize (d.nodeAt N.length).2=l at hf hkn
   cases l with
   | nil=>simp [flat] at hf
   | cons k0 r=>
    cases hal:Hs.alike ((k0 :: r).map fun k=>(ad A N k:Int)) with
    | false=>rfl
    | true=>
     rw [← hf]
     symm
     unfold Hs.alike at hal;unfold flat;rw [List.all_eq_true] at hal ⊢;intro k hk;have:=hal _ (List.mem_map.2 ⟨k,hk,rfl⟩);simp only [List.map_cons,List.headD_cons,beq_iff_eq] at this ⊢;have b1:=hkn k hk;have b2:=hkn k0 (by simp);exact P.inj hL O hA N.length k k0 b1.1 b1.1 b2.1 b1.2 b2.2 (by exact Int.ofNat.inj this)
  have hnode:isNode S.sizes ((d.nodeAt N.length).1+1)=true:=by
   simp [isNode,within,P.sizes];omega
  have hwz:wz S.sizes ((d.nodeAt N.length).1+1)=4+(d.sizes.getD (d.nodeAt N.length).1.toNat 0).toNat:=by
   unfold wz;rw [he,P.sizes,show (d.nodeAt N.length).1+1-1=(d.nodeAt N.length).1 by omega];rfl
  have hn:New S ((d.nodeAt N.length).1+1) ((d.nodeAt N.length).2.map fun k=>(ad A N k:Int)):=new_node hw hnode (by rw [hwz,List.length_map];omega) h3 hflat;have hmake:∀ r,S.add ((d.nodeAt N.length).1+1) ((d.nodeAt N.length).2.map fun k=>(ad A N k:Int))=some r → S.make (d.nodeAt N.length).1 ((d.nodeAt N.length).2.map fun k=>(ad A N k:Int))=some (Hs.full r):=fun r hr=>by
   unfold Hs.make;rw [hck];simp only [Option.bind_eq_bind,Option.bind_some];rw [if_neg (by simp),if_neg (by simp [hflat]),hr];rfl
  rcases add_one hw h1 hn with ⟨a,ha,q1,q2,e⟩ | ⟨hno,⟨hfull,e⟩ | ⟨a,S',L',ch',e,ha,hp,hw',h1',hsum⟩⟩
  · exfalso
    rcases P.all a ha with hm | hm
    · obtain ⟨i,hi⟩:=List.mem_iff_getElem?.1 hm;have hil:i < A.length:=by
       rcases Nat.lt_or_ge i A.length with h | h
       · exact h
       · rw [List.getElem?_eq_none h] at hi
         cases hi
      obtain ⟨_,r1,r2⟩:=P.ends i a hi;have:=isEnd_end hL (i:=i) (by omega);rw [← r1,q1,he] at this
      cases this
    · obtain ⟨i,hi⟩:=List.mem_iff_getElem?.1 hm;have hil:i < N.length:=by
       rcases Nat.lt_or_ge i N.length with h | h
       · exact h
       · rw [List.getElem?_eq_none h] at hi
         cases hi
      obtain ⟨_,r1,r2⟩:=P.nodes i a hi;have hk2:(d.nodeAt i).2=(d.nodeAt N.length).2:=by
       refine map_inj_on (f:=fun k=>(ad A N k:Int)) ?_ (r2.symm.trans q2);intro x hx y hy exy;have b1:=hL.kids i (by omega) x hx;have b2:=hkn y hy;exact P.inj hL O hA N.length x y (by have:=b1.1.1;omega) (by have:=b1.1.1;omega) b2.1 b1.1.2 b2.2 (by exact Int.ofNat.inj exy)
      have:d.nodeAt i=d.nodeAt N.length:=Prod.ext (by omega) hk2;have:=nodup_inj O.nodes (nodeAt_mem (i:=i) (by omega)).2 (this ▸ (nodeAt_mem hN).2);omega
  · left;rw [hmake _ e];refine ⟨by simp [Hs.full], ?_⟩;omega
  · right;refine ⟨a,S',by rw [hmake _ e];simp only [Hs.full];rw [if_neg (by omega)], ?_⟩;refine ⟨⟨hp.sizes.trans P.sizes,hp.order.trans P.order,P.al,by simp;omega,.inr hA,fun i b hi=>?_,fun i b hi=>?_⟩,⟨L',ch',hw',h1', ?_⟩,fun b hb=>?_, ?_⟩
    · rw [hp.taken];obtain ⟨r0,r1,r2⟩:=P.ends i b hi;have hil:i < A.length:=by
       rcases Nat.lt_or_ge i A.length with h | h
       · exact h
       · rw [List.getElem?_eq_none h] at hi
         cases hi
      have heb:isEnd (ow S.words b)=true:=by rw [r1];exact isEnd_end hL (by omega)
      refine ⟨(mem_ins _ _ _).2 (.inr r0), ?_, ?_⟩
      · rw [(hp.old b r0).1,r1]
      · rw [same_end hp.old r0 heb,r2]
    · rw [hp.taken]
      rcases Nat.lt_or_ge i N.length with h | h
      · rw [List.getElem?_append_left h] at hi;obtain ⟨r0,r1,r2⟩:=P.nodes i b hi;refine ⟨(mem_ins _ _ _).2 (.inr r0), ?_, ?_⟩
        · rw [(hp.old b r0).1,r1]
        · rw [hp.sizes,hp.old.fz_ r0,r2];refine List.map_congr_left fun k hk=>?_
          have:=(hL.kids i (by omega) k hk).1.1;rw [ad_right (by omega)]
      · rw [List.getElem?_append_right h] at hi;have hi0:i-N.length=0:=by
         rcases Nat.lt_or_ge (i-N.length) 1 with h | h
         · omega
         · rw [List.getElem?_eq_none (by simpa using h)] at hi
           cases hi
        rw [hi0] at hi;simp only [List.getElem?_cons_zero,Option.some.injEq] at hi;subst hi;have hia:i=N.length:=by omega
        subst hia;refine ⟨(mem_ins _ _ _).2 (.inl rfl),hp.tag, ?_⟩;rw [hp.sizes,hp.fs];refine List.map_congr_left fun k hk=>?_
        rw [ad_right (hkn k hk).1]
    · simp only [List.length_append,List.length_cons,List.length_nil];omega
    · rw [hp.taken] at hb
      rcases (mem_ins _ _ _).1 hb with rfl | hb
      · exact .inr (by simp)
      · rcases P.all b hb with h | h
        · exact .inl h
        · exact .inr (by simp [h])
    · rw [hp.taken,insert_len hp.new,P.many];simp;omega
theorem drop_cons {α:Type} {l:List α} {i:Nat} {v:α} (h:l[i]? = some v):l.drop i=v :: l.drop (i+1):=by
 have hi:i < l.length:=by
  rcases Nat.lt_or_ge i l.length with h' | h'
  · exact h'
  · rw [List.getElem?_eq_none h'] at h
    cases h
 rw [List.drop_eq_getElem_cons hi]
 rw [List.getElem?_eq_getElem hi] at h
 rw [Option.some.inj h]
theorem adsI_snoc (A:List Nat) (a:Nat):adsI A ++ [(a:Int)]=adsI (A ++ [a]):=by simp [adsI]
theorem map_toA (A N:List Nat) (l:List Int):l.map (toA (adsI A) (adsI N))=l.map fun k=>(ad A N k:Int):=List.map_congr_left fun k _=>toA_nats A N k
theorem putE_in {B n:Nat} (hL:d.Loose) (O:Once d):∀ (m:Nat) (S:Hs) (A:List Nat),A.length+m=d.ends.length → PutIn d B n S A [] →
    (∃ A' S',putE S (d.ends.drop A.length) (adsI A)=some (8,A',S') ∧ n < 8+16 * d.ends.length) ∨
    ∃ (A':List Nat) (S':Hs),putE S (d.ends.drop A.length) (adsI A)=some (0,adsI A',S') ∧ A'.length=d.ends.length ∧ PutIn d B n S' A' []
  | 0,S,A,hm,P=>by
   rw [List.drop_eq_nil_of_le (by omega)];exact .inr ⟨A,S,rfl,by omega,P⟩
  | m+1,S,A,hm,P=>by
   have hA:A.length < d.ends.length:=by omega
   rw [drop_cons (endAt_mem hA).2]
   rcases P.end_ hL O hA with ⟨e,h⟩ | ⟨a,S',e,P'⟩
   · left;unfold putE;rw [e];refine ⟨adsI A,S,by simp,by omega⟩
   · have:=putE_in hL O m S' (A ++ [a]) (by simp;omega) P';unfold putE;rw [e];simp only [List.length_append,List.length_cons,List.length_nil,Nat.zero_add] at this;simp only [Option.bind_eq_bind,Option.bind_some];rw [if_neg (by simp),adsI_snoc];exact this
theorem putN_in {B n:Nat} (hL:d.Loose) (O:Once d) {A:List Nat} (hA:A.length=d.ends.length):∀ (m:Nat) (S:Hs) (N:List Nat),N.length+m=d.nodes.length → PutIn d B n S A N →
    (∃ N' S',putN (adsI A) S (d.nodes.drop N.length) (adsI N)=some (8,N',S') ∧ n < 3+16 * (d.ends.length+d.nodes.length)) ∨
    ∃ (N':List Nat) (S':Hs),putN (adsI A) S (d.nodes.drop N.length) (adsI N)=some (0,adsI N',S') ∧ N'.length=d.nodes.length ∧ PutIn d B n S' A N'
  | 0,S,N,hm,P=>by
   rw [List.drop_eq_nil_of_le (by omega)];exact .inr ⟨N,S,rfl,by omega,P⟩
  | m+1,S,N,hm,P=>by
   have hN:N.length < d.nodes.length:=by omega
   rw [drop_cons (nodeAt_mem hN).2]
   rcases P.node_ hL O hA hN with ⟨e,h⟩ | ⟨a,S',e,P'⟩
   · left;unfold putN;rw [map_toA,e];refine ⟨adsI N,S,by simp,by omega⟩
   · have:=putN_in hL O hA m S' (N ++ [a]) (by simp;omega) P';unfold putN;rw [map_toA,e];simp only [List.length_append,List.length_cons,List.length_nil,Nat.zero_add] at this;simp only [Option.bind_eq_bind,Option.bind_some];rw [if_neg (by simp),adsI_snoc];exact this
theorem put_in {B n:Nat} {S:Hs} {L:List Tl} {ch:Nat → List Nat} (hL:d.Loose) (O:Once d) (hw:Wf S B L ch) (h1:OneFree L) (hn:n ≤ freeSum L) (h0:S.taken=[]) (hz:S.sizes=d.sizes) (ho:S.order=d.order) :
    (∃ S',put d S=some (0,8,S') ∧ n < 8+16 * (d.ends.length+d.nodes.length)) ∨
    ∃ (A N:List Nat) (S':Hs),put d S=some ((ad A N d.root:Int),0,S') ∧ A.length=d.ends.length ∧ N.length=d.nodes.length ∧ PutIn d B n S' A N:=by
  have P0:PutIn d B n S [] []:=⟨⟨hz,ho,by simp,by simp,.inl rfl,by simp,by simp⟩,⟨L,ch,hw,h1,by simpa using hn⟩,by simp [h0],by simp [h0]⟩
  unfold put
  rcases putE_in hL O d.ends.length S [] (by simp) P0 with ⟨A',S',e,h⟩ | ⟨A,S1,e,hA,P1⟩
  · left;simp only [List.length_nil,List.drop_zero] at e;rw [show ([]:List Int)=adsI [] from rfl,e];exact ⟨S',by simp,by omega⟩
  · simp only [List.length_nil,List.drop_zero] at e;rw [show ([]:List Int)=adsI [] from rfl,e]
    rcases putN_in hL O hA d.nodes.length S1 [] (by simp) P1 with ⟨N',S',e2,h⟩ | ⟨N,S2,e2,hN,P2⟩
    · left;simp only [List.length_nil,List.drop_zero] at e2;simp only [Option.bind_eq_bind,Option.bind_some];rw [if_neg (by simp),e2];exact ⟨S',by simp,by omega⟩
    · right;simp only [List.length_nil,List.drop_zero] at e2;simp only [Option.bind_eq_bind,Option.bind_some];rw [if_neg (by simp),e2];refine ⟨A,N,S2, ?_,hA,hN,P2⟩;simp only [Option.bind_some];rw [if_neg (by simp),toA_nats]
theorem putE_again {S:Hs} {A N:List Nat} (P:PutAt d S A N) (hg:∃ B L ch,Wf S B L ch) (hL:d.Loose) (hA:A.length=d.ends.length):∀ (m i:Nat),i+m=d.ends.length → putE S (d.ends.drop i) (adsI (A.take i))=some (0,adsI A,S)
 | 0,i,hm=>by
  rw [List.drop_eq_nil_of_le (by omega),List.take_of_length_le (by omega)];rfl
 | m+1,i,hm=>by
  obtain ⟨B,L,ch,hw⟩:=id hg;have hi:i < d.ends.length:=by omega
  rw [drop_cons (endAt_mem hi).2];have hai:A[i]? = some (A.getD i 0):=getD_of (by omega);obtain ⟨q0,q1,q2⟩:=P.ends i _ hai;have hh:=hw.end_hit q0 (by rw [q1];exact isEnd_end hL hi);rw [q1,q2,show 20+(d.endAt i).1-20=(d.endAt i).1 by omega] at hh;unfold putE;rw [hh];simp only [Option.bind_eq_bind,Option.bind_some];rw [if_neg (by simp),adsI_snoc,take_snoc hai];exact putE_again P hg hL hA m (i+1) (by omega)
theorem putN_again {S:Hs} {A N:List Nat} (P:PutAt d S A N) (hg:∃ B L ch,Wf S B L ch) (hL:d.Loose) (hN:N.length=d.nodes.length):∀ (m i:Nat),i+m=d.nodes.length → putN (adsI A) S (d.nodes.drop i) (adsI (N.take i))=some (0,adsI N,S)
 | 0,i,hm=>by
  rw [List.drop_eq_nil_of_le (by omega),List.take_of_length_le (by omega)];rfl
 | m+1,i,hm=>by
  obtain ⟨B,L,ch,hw⟩:=id hg;have hi:i < d.nodes.length:=by omega
  rw [drop_cons (nodeAt_mem hi).2];have hai:N[i]? = some (N.getD i 0):=getD_of (by omega);obtain ⟨q0,q1,q2⟩:=P.nodes i _ hai;have hh:=(hw.make_hit q0 (by rw [q1];exact isEnd_node hL hi)).1;rw [q1,q2,show (d.nodeAt i).1+1-1=(d.nodeAt i).1 by omega] at hh;unfold putN;have hmap:(d.nodeAt i).2.map (toA (adsI A) (adsI (N.take i)))=(d.nodeAt i).2.map fun k=>(ad A N k:Int):=by
   rw [map_toA];refine List.map_congr_left fun k hk=>?_
   have:=(hL.kids i hi k hk).1.1;unfold ad
   by_cases hk:k < 0
   · rw [if_pos hk,if_pos hk]
   · rw [if_neg hk,if_neg hk,List.getD_eq_getElem?_getD,List.getD_eq_getElem?_getD,List.getElem?_take_of_lt (by omega)]
  rw [hmap,hh];simp only [Option.bind_eq_bind,Option.bind_some];rw [if_neg (by simp),adsI_snoc,take_snoc hai];exact putN_again P hg hL hN m (i+1) (by omega)
theorem put_again {S:Hs} {A N:List Nat} (P:PutAt d S A N) (hg:∃ B L ch,Wf S B L ch) (hL:d.Loose) (hA:A.length=d.ends.length) (hN:N.length=d.nodes.length):put d S=some ((ad A N d.root:Int),0,S):=by
 have e1:=putE_again P hg hL hA d.ends.length 0 (by simp)
 have e2:=putN_again P hg hL hN d.nodes.length 0 (by simp)
 simp only [List.drop_zero,List.take_zero] at e1 e2
 unfold put
 rw [show ([]:List Int)=adsI [] from rfl,e1]
 simp only [Option.bind_eq_bind,Option.bind_some]
 rw [if_neg (by simp),e2]
 simp only [Option.bind_some]
 rw [if_neg (by simp),toA_nats]
end Nd
namespace Nd
open Hp
end Nd
namespace Nd
open Hp
variable {d:Dia}
structure ParD (d:Dia) (A N:List Nat) (D:Dg) (t:List Int × List Int) (a b:Nat):Prop where
 a_le:a ≤ d.nodes.length
 b_le:b ≤ d.ends.length
 nodes:D.nodes=d.nodes.take a
 ends:D.ends=d.ends.take b
 known:∀ k,d.Ref k d.nodes.length → getI (ad A N k) D.known=if -(b:Int) ≤ k ∧ k < a then some k else none
 up:KeysUp D.known
 t:t=(upto a,upto b)
def Up (d:Dia) (t:List Int × List Int):Prop:=t.1 <+: upto d.nodes.length ∧ t.2 <+: upto d.ends.length
theorem Up.back {t t':List Int × List Int} (h:Up d t') (j:TLe t t'):Up d t:=⟨j.1.trans h.1,j.2.trans h.2⟩
def StepD (d:Dia) (S:Hs) (A N:List Nat) (m n:Nat):Prop:=∀ (r:Int) (D:Dg) (t:List Int × List Int) (a b:Nat),d.Ref r n → n ≤ d.nodes.length → (d.order.length:Int)-d.rk r < m → ParD d A N D t a b → Up d (d.srch (n+1) r t) →
 ∃ D' a' b',S.from' m (ad A N r) D=some (r,D') ∧ ParD d A N D' (d.srch (n+1) r t) a' b' ∧ a' ≤ max a (r+1).toNat
theorem refs_put {S:Hs} {A N:List Nat} {m n j:Nat} (ih:StepD d S A N m n) (hn:n ≤ d.nodes.length):∀ (l:List Int) (D:Dg) (t:List Int × List Int) (a b:Nat),(∀ k ∈ l,d.Ref k n ∧ (k+1).toNat ≤ j ∧ (d.order.length:Int)-d.rk k < m) → ParD d A N D t a b → a ≤ j →
    Up d (l.foldl (fun t k=>d.srch (n+1) k t) t) →
    ∃ D' a' b',refs (S.from' m) (l.map (ad A N)) D=some (l,D') ∧ ParD d A N D' (l.foldl (fun t k=>d.srch (n+1) k t) t) a' b' ∧ a' ≤ j
  | [],D,t,a,b,_,P,ha,_=>⟨D,a,b,rfl,P,ha⟩
  | k :: r,D,t,a,b,hl,P,ha,hU=>by
   have hk:=hl k (by simp);have hU1:Up d (d.srch (n+1) k t):=hU.back (fold_le (fun t k=>srch_le d (n+1) k t) r _);obtain ⟨D1,a1,b1,e1,P1,h1⟩:=ih k D t a b hk.1 hn hk.2.2 P hU1;obtain ⟨D2,a2,b2,e2,P2,h2⟩:=refs_put ih hn r D1 _ a1 b1 (fun k hk=>hl k (by simp [hk])) P1 (by have:=hk.2.1;omega) hU;exact ⟨D2,a2,b2,by simp only [List.map_cons,refs,e1,Option.bind_eq_bind,Option.bind_some,e2],P2,h2⟩
theorem ParD.put {A N:List Nat} {D:Dg} {t:List Int × List Int} {a b:Nat} (P:ParD d A N D t a b) (hi:∀ k k',d.Ref k d.nodes.length → d.Ref k' d.nodes.length → ad A N k=ad A N k' → k=k') {r:Int} (hr:d.Ref r d.nodes.length) :
    ∀ k,d.Ref k d.nodes.length → getI (ad A N k) (putI (ad A N r) r D.known)=if k=r then some r else if -(b:Int) ≤ k ∧ k < a then some k else none:=by
  intro k hk;rw [getI_put P.up]
  by_cases e:k=r
  · subst e;simp
  · rw [if_neg (fun e'=>e (hi k r hk hr e')),if_neg e,P.known k hk]
theorem rk_le (d:Dia) (k:Int) : -1 ≤ d.rk k ∧ d.rk k ≤ d.order.length:=by
 unfold Dia.rk
 split
 · omega
 · refine ⟨index_lo _ _, ?_⟩;unfold index
   split
   · rename_i i hi;have:=(List.findIdx?_eq_some_iff_getElem.1 hi).1;omega
   · omega
theorem stepD {S:Hs} {A N:List Nat} (P:PutAt d S A N) (hL:d.Loose) (O:Once d) (hA:A.length=d.ends.length) (hN:N.length=d.nodes.length):∀ m n,StepD d S A N m n
 | 0,n=>fun r D t a b hR hn hm Q hU=>by
  exfalso;have:=(rk_le d r).2;omega
 | m+1,n=>fun r D t a b hR hn hm Q hU=>by
  have hi:∀ k k',d.Ref k d.nodes.length → d.Ref k' d.nodes.length → ad A N k=ad A N k' → k=k':=fun k k' h h' e=>P.inj hL O hA d.nodes.length k k' h.1 (by have:=h.1;omega) (by have:=h'.1;omega) h.2 h'.2 e
  have hR':d.Ref r d.nodes.length:=⟨by have:=hR.1;omega,hR.2⟩
  unfold Hs.from'
  rw [Q.known r hR'];rw [Dia.srch] at hU ⊢
  by_cases hr:r < 0
  · simp only [if_pos hr] at hU ⊢;have he:(-1-r).toNat < d.ends.length:=by have:=hR.2;omega
    by_cases hb : -(b:Int) ≤ r
    · have hmem : -1-r ∈ t.2:=by rw [Q.t];exact mem_upto.2 ⟨by omega,by omega⟩
      simp only [if_pos hmem] at hU ⊢;rw [if_pos ⟨hb,by omega⟩];exact ⟨D,a,b,rfl,Q,by omega⟩
    · have hmem:¬ -1-r ∈ t.2:=fun h=>by rw [Q.t] at h;have:=mem_upto.1 h;omega
      simp only [if_neg hmem] at hU ⊢;rw [if_neg (fun h=>hb h.1)];obtain ⟨q0,q1,q2⟩:=P.ends _ _ (P.end_ hr (by have:=hR.2;omega));simp only [q1,isEnd_end hL he,if_true,q2];have hbe:b=(-1-r).toNat:=by
       obtain ⟨_,h3⟩:=hU;rw [Q.t] at h3;have h4:=(upto_pre h3).1;have h5:upto b ++ [-1-r]=upto b ++ [(b:Int)]:=by
        rw [← upto_succ]
        simpa [upto_len] using h4
       have:=List.append_cancel_left h5;simp only [List.cons.injEq,and_true] at this;omega
      have hlen:D.ends.length=b:=by rw [Q.ends];simp only [List.length_take];omega
      have hx : -((D.ends.length:Int)+1)=r:=by rw [hlen];omega
      rw [hx];refine ⟨_,a,b+1,rfl,⟨Q.a_le,by omega,Q.nodes, ?_,fun k hk=>?_,keysUp_put Q.up, ?_⟩,by omega⟩
      · show D.ends ++ _=_;rw [Q.ends,show 20+(d.endAt (-1-r).toNat).1-20=(d.endAt (-1-r).toNat).1 by omega];rw [← hbe] at he ⊢;exact take_snoc (endAt_mem he).2
      · show getI _ (putI _ _ _)=_;rw [Q.put hi hR' k hk]
        by_cases e:k=r
        · rw [if_pos e,if_pos (by omega),e]
        · rw [if_neg e]
          by_cases h2 : -(b:Int) ≤ k ∧ k < a
          · rw [if_pos h2,if_pos (by omega)]
          · rw [if_neg h2,if_neg (by omega)]
      · rw [Q.t,upto_succ];simp only [Prod.mk.injEq,true_and]
        congr 2
        omega
  · obtain ⟨i,rfl⟩:∃ i:Nat,r=(i:Int):=⟨r.toNat,by omega⟩
    have hin:i < n:=by have:=hR.1;omega
    have hil:i < d.nodes.length:=by omega
    simp only [if_neg hr,Int.toNat_natCast] at hU ⊢
    by_cases ha:i < a
    · have hmem:(i:Int) ∈ t.1:=by rw [Q.t];exact mem_upto.2 ⟨by omega,by omega⟩
      simp only [if_pos hmem] at hU ⊢;rw [if_pos ⟨by omega,by omega⟩];exact ⟨D,a,b,rfl,Q,by omega⟩
    have hmem:¬ (i:Int) ∈ t.1:=fun h=>by rw [Q.t] at h;have:=mem_upto.1 h;omega
    simp only [if_neg hmem] at hU ⊢;rw [if_neg (by omega)];obtain ⟨q0,q1,q2⟩:=P.nodes _ _ (P.node_ hr (by omega));simp only [Int.toNat_natCast] at q1 q2;have hkids:(fz (ow S.words) S.sizes (ad A N (i:Int))).map Int.toNat=(d.nodeAt i).2.map (ad A N):=by
     rw [q2,List.map_map];refine List.map_congr_left fun k _=>?_
     simp
    simp only [q1,isEnd_node hL hil,Bool.false_eq_true,if_false,hkids];obtain ⟨n',rfl⟩:∃ n',n=n'+1:=⟨n-1,by omega⟩
    have hrk:d.rk (i:Int)=index d.order (d.nodeAt i).1:=by
     unfold Dia.rk;rw [if_neg hr,Int.toNat_natCast]
    have hk:∀ k ∈ (d.nodeAt i).2,d.Ref k n' ∧ (k+1).toNat ≤ i ∧ (d.order.length:Int)-d.rk k < m:=by
     intro k hk;have:=hL.kids i hil k hk;refine ⟨⟨by have:=this.1.1;omega,this.1.2⟩,by have:=this.1.1;omega, ?_⟩;have:=this.2;omega
    generalize eu:(d.nodeAt i).2.foldl (fun t k=>d.srch (n'+1) k t) t=u at hU ⊢;have hU1:Up d u:=⟨(List.prefix_append _ _).trans hU.1,hU.2⟩
    obtain ⟨D1,a1,b1,e1,Q1,h1⟩:=refs_put (j:=i) (stepD P hL O hA hN m n') (by omega) (d.nodeAt i).2 D t a b hk Q (by omega) (by rw [eu];exact hU1);rw [eu] at Q1;have hae:a1=i:=by
     have h3:=hU.1;rw [Q1.t] at h3;have h4:=(upto_pre h3).1;have h5:upto a1 ++ [(i:Int)]=upto a1 ++ [(a1:Int)]:=by
      rw [← upto_succ]
      simpa [upto_len] using h4
     have:=List.append_cancel_left h5;simp only [List.cons.injEq,and_true] at this;omega
    subst hae;have hlen:D1.nodes.length=a1:=by rw [Q1.nodes];simp only [List.length_take];omega
    simp only [Option.bind_eq_bind,e1,Option.bind_some,hlen];refine ⟨_,a1+1,b1,rfl,⟨hil,Q1.b_le, ?_,Q1.ends,fun k hk=>?_,keysUp_put Q1.up, ?_⟩,by omega⟩
    · show D1.nodes ++ _=_;rw [Q1.nodes,show (d.nodeAt a1).1+1-1=(d.nodeAt a1).1 by omega];exact take_snoc (nodeAt_mem hil).2
    · show getI _ (putI _ _ _)=_;rw [Q1.put hi hR' k hk]
      by_cases e:k=(a1:Int)
      · rw [if_pos e,if_pos (by omega),e]
      · rw [if_neg e]
        by_cases h2 : -(b1:Int) ≤ k ∧ k < a1
        · rw [if_pos h2,if_pos (by omega)]
        · rw [if_neg h2,if_neg (by omega)]
    · rw [Q1.t,upto_succ]
theorem diagram_put {S:Hs} {A N:List Nat} (P:PutAt d S A N) (hL:d.Loose) (h:d.Is) (hA:A.length=d.ends.length) (hN:N.length=d.nodes.length) :
    ∃ D,S.diagram (ad A N d.root)=some (d.root,D) ∧ D.ends=d.ends ∧ D.nodes=d.nodes:=by
  have Q0:ParD d A N ⟨[],[],[]⟩ ([],[]) 0 0:=⟨by omega,by omega,by simp,by simp,fun k _=>by simp only [getI];rw [if_neg (by omega)],List.Pairwise.nil,rfl⟩
  obtain ⟨D,a,b,e,Q,_⟩:=stepD P hL h.toOnce hA hN (S.order.length+2) d.nodes.length d.root ⟨[],[],[]⟩ ([],[]) 0 0 hL.root (Nat.le_refl _) (by have:=(rk_le d d.root).1;rw [P.order];omega) Q0 (by rw [h.search];exact ⟨List.prefix_refl _,List.prefix_refl _⟩);have h4:=Q.t;rw [h.search,Prod.mk.injEq] at h4;have ha:=upto_inj h4.1;have hb:=upto_inj h4.2;refine ⟨D,e, ?_, ?_⟩
  · rw [Q.ends,← hb,List.take_length]
  · rw [Q.nodes,← ha,List.take_length]
end Nd
namespace Hp
structure DropOk (S S':Hs) (L:List Tl) (ch:Nat → List Nat) (j:Nat):Prop where
 wf:Wf S' 60 L ch
 sizes:S'.sizes=S.sizes
 order:S'.order=S.order
 taken:S'.taken=S.taken
 len:S'.words.length=S.words.length
 zero:∀ i a,i < j → S.taken[i]? = some a → ow S'.words (a+2)=0
 rest:∀ i a,j ≤ i → S.taken[i]? = some a → ow S'.words (a+2)=ow S.words (a+2)
structure DropIn (S S':Hs) (L:List Tl) (ch:Nat → List Nat) (j:Nat) (a:Nat) (v:Int):Prop where
 wf:Wf S' 60 L ch
 sizes:S'.sizes=S.sizes
 order:S'.order=S.order
 taken:S'.taken=S.taken
 len:S'.words.length=S.words.length
 at_:S.taken[j]? = some a
 zero:∀ i b,i < j → S.taken[i]? = some b → ow S'.words (b+2)=0
 rest:∀ i b,j < i → S.taken[i]? = some b → ow S'.words (b+2)=ow S.words (b+2)
 cur:ow S'.words (a+2)=v
theorem DropOk.start {S:Hs} {L:List Tl} {ch:Nat → List Nat} (h:Wf S 60 L ch):DropOk S S L ch 0:=
 ⟨h,rfl,rfl,rfl,rfl,fun _ _ hi=>by omega,fun _ _ _ _=>rfl⟩
theorem up_ne {T:List Nat} (h:T.Pairwise (· < ·)) {i j a b:Nat} (hi:T[i]? = some a) (hj:T[j]? = some b) (hne:i ≠ j):a ≠ b:=by
 obtain ⟨l1,rfl⟩:=List.getElem?_eq_some_iff.1 hi
 obtain ⟨l2,rfl⟩:=List.getElem?_eq_some_iff.1 hj
 rw [List.pairwise_iff_getElem] at h
 rcases Nat.lt_or_gt_of_ne hne with hlt | hlt
 · have:=h i j l1 l2 hlt;omega
 · have:=h j i l2 l1 hlt;omega
theorem DropIn.mem {S S':Hs} {L:List Tl} {ch:Nat → List Nat} {j a:Nat} {v:Int} (h:DropIn S S' L ch j a v):a ∈ S'.taken:=by
 rw [h.taken]
 exact List.mem_of_getElem? h.at_
theorem DropIn.range {S S':Hs} {L:List Tl} {ch:Nat → List Nat} {j a:Nat} {v:Int} (h:DropIn S S' L ch j a v):0 ≤ v ∧ v ≤ 60:=by
 have:=h.wf.holds a h.mem
 rw [h.cur] at this
 omega
theorem DropIn.step {S S':Hs} {L:List Tl} {ch:Nat → List Nat} {j a:Nat} {v:Int} (h:DropIn S S' L ch j a v) (hv:v ≠ 0):∃ S'',S'.drop a=some (0,S'') ∧ DropIn S S'' L ch j a (v-1):=by
 have hup:S.taken.Pairwise (· < ·):=by rw [← h.taken];exact h.wf.up
 obtain ⟨W,e,hw,hl,hg⟩:=drop_wf h.wf h.mem (by rw [h.cur];exact hv)
 have far:∀ i b,i ≠ j → S.taken[i]? = some b → ow W (b+2)=ow S'.words (b+2):=fun i b hi hb=>by
  rw [hg,if_neg];have:=up_ne hup hb h.at_ hi;omega
 refine ⟨_,e,hw,h.sizes,h.order,h.taken,hl.trans h.len,h.at_,fun i b hi hb=>?_,fun i b hi hb=>?_, ?_⟩
 · exact (far i b (by omega) hb).trans (h.zero i b hi hb)
 · exact (far i b (by omega) hb).trans (h.rest i b hi hb)
 · show ow W (a+2)=v-1;rw [hg,if_pos rfl,h.cur]
theorem DropIn.done {S S':Hs} {L:List Tl} {ch:Nat → List Nat} {j a:Nat} {v:Int} (h:DropIn S S' L ch j a v) (hv:v=0):S'.drop a=some (9,S') ∧ DropOk S S' L ch (j+1):=by
 refine ⟨drop_no h.wf h.mem (h.cur.trans hv),h.wf,h.sizes,h.order,h.taken,h.len,fun i b hi hb=>?_,fun i b hi hb=>h.rest i b (by omega) hb⟩
 by_cases e:i=j
 · subst e;have:=h.at_;rw [hb] at this
   cases this
   exact h.cur.trans hv
 · exact h.zero i b (by omega) hb
theorem DropOk.all {S S':Hs} {L:List Tl} {ch:Nat → List Nat} (h:DropOk S S' L ch S.taken.length):∀ a ∈ S'.taken,ow S'.words (a+2)=0:=fun a ha=>by
 rw [h.taken] at ha
 obtain ⟨i,hi,rfl⟩:=List.getElem_of_mem ha
 exact h.zero i _ hi (List.getElem?_eq_getElem hi)
structure HoldOk (S S':Hs) (L:List Tl) (ch:Nat → List Nat) (j:Nat):Prop where
 wf:Wf S' (60+j) L ch
 sizes:S'.sizes=S.sizes
 order:S'.order=S.order
 taken:S'.taken=S.taken
 len:S'.words.length=S.words.length
theorem HoldOk.skip {S S':Hs} {L:List Tl} {ch:Nat → List Nat} {j:Nat} (h:HoldOk S S' L ch j) (hj:60+(j+1) ≤ 100000):HoldOk S S' L ch (j+1):=
 ⟨h.wf.more (by omega) hj,h.sizes,h.order,h.taken,h.len⟩
theorem HoldOk.step {S S':Hs} {L:List Tl} {ch:Nat → List Nat} {j a:Nat} (h:HoldOk S S' L ch j) (hj:60+(j+1) ≤ 100000) (ha:S.taken[j]? = some a):∃ S'',S'.hold a=some (0,S'') ∧ HoldOk S S'' L ch (j+1):=by
 have hm:a ∈ S'.taken:=by rw [h.taken];exact List.mem_of_getElem? ha
 obtain ⟨W,e,hw,hl,_⟩:=hold_wf h.wf (by omega) hm
 exact ⟨_,e,hw,h.sizes,h.order,h.taken,hl.trans h.len⟩
end Hp
end Go.Proofs.YtdokmmhjmclmnaaGreat
