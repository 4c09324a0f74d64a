/-
  Part 16 of a proof: PL13 HFn51 HFn52 PL16 PL17 RH1 RH2 RH3 RH4 RH5 PL18 PL19.
-/
import Derived.DeepKeys4
import Derived.Maps.Own
import Derived.Test.YtdokmmhjmclmnaaGreatMK04
import Derived.Test.YtdokmmhjmclmnaaGreatMK07
import Derived.Test.YtdokmmhjmclmnaaGreatMK08
import Derived.Test.YtdokmmhjmclmnaaGreatMK10
import Derived.Test.YtdokmmhjmclmnaaGreatMK11
import Derived.Test.YtdokmmhjmclmnaaGreatMK15
set_option linter.unusedSimpArgs false
set_option linter.unusedVariables false
set_option linter.unusedSectionVars false
set_option linter.unnecessarySimpa false
namespace Go.Proofs.YtdokmmhjmclmnaaGreat
variable {W' w w' w0:World} {B a b base c ca cap f g i j k k1 k2 m n oc sb sc:Nat} {choice e t x:Int} {W fs l o z:List Int} {A T:List Nat} {op p p1 p2 pa pe pn q sp:Option Addr} {d:Hd} {S S':Hp.Hs} {L:List Hp.Tl} {M:List (Nat × Int)} {s s':Hp.Sc} {acts:List Hp.Act'}
namespace Hp
theorem isEnd_of {fault:Int} (h0:0<=fault) (h4:fault<=4):isEnd (20+fault)=true:=by
 simp [isEnd,within]
 omega
theorem new_end {fault n:Int} (h0:0<=fault) (h4:fault<=4) (hn:fault > 0->n=0) (h1 : -9999<=n) (h2:n<=9999):New S (20+fault) [n]:=by
 have he:=isEnd_of h0 h4
 refine ⟨by simp [okTag,he],by simp [wz,he],fun _ x hx=>?_,fun h=>?_,fun h=>?_⟩
 . have:x=n:=by simpa using hx
   subst this;exact ⟨h1,h2,fun h=>hn (by omega)⟩
 . rw [he] at h;cases h
 rw [he] at h;cases h
structure Grown (S S':Hs):Prop where
 sizes:S'.sizes=S.sizes
 order:S'.order=S.order
 len:S'.words.length=S.words.length
theorem Grown.refl (S:Hs):Grown S S:=⟨rfl,rfl,rfl⟩
theorem Grown.trans {A B C:Hs} (h:Grown A B) (k:Grown B C):Grown A C:=⟨k.sizes.trans h.sizes,k.order.trans h.order,k.len.trans h.len⟩
def Good (S:Hs) (B:Nat):Prop:=∃ L ch,Wf S B L ch
theorem Wf.more {B':Nat} {ch:Nat->List Nat} (h:Wf S B L ch) (hB:B<=B') (hb:B'<=100000):Wf S B' L ch:=
 { h with bd:=hb,holds:=fun a ha=>by have:=h.holds a ha;omega }
theorem add_good (h:Good S B) (hn:New S t fs):∃ a S',S.add t fs=some (a,S')/\Good S' B/\Grown S S':=by
 obtain ⟨L,ch,h⟩:=h
 rcases add_wf h hn with ⟨a,_,_,_,e⟩ | ⟨_,⟨_,e⟩ | ⟨P,u,Q,S',_,_,_,_,e,hp,hw⟩⟩
 . exact ⟨a,S,e,⟨L,ch,h⟩,.refl _⟩
 . exact ⟨0,S,e,⟨L,ch,h⟩,.refl _⟩
 exact ⟨u.a,S',e,⟨_,_,hw⟩,⟨hp.sizes,hp.order,hp.len⟩⟩
theorem end_good (h:Good S B) {fault n:Int} (h0:0<=fault):∃ r e S',S.end' fault n=some (r,e,S')/\Good S' B/\Grown S S':=by
 unfold Hs.end'
 split
 . exact ⟨0,4,S,rfl,h,.refl _⟩
 rename_i hc
 simp only [not_or,Bool.not_eq_false,within,Bool.and_eq_true,decide_eq_true_eq] at hc
 obtain ⟨h1,h2,h3⟩:=hc
 obtain ⟨a,S',e,hg,hr⟩:=add_good h (new_end (S:=S) (fault:=fault) (n:=n) h0 (by omega) (fun hf=>by omega) h3.1 h3.2)
 rw [e]
 simp only [Option.bind_eq_bind,Option.bind_some]
 unfold Hs.full
 simp only
 split
 . exact ⟨_,_,S',rfl,hg,hr⟩
 exact ⟨_,_,S',rfl,hg,hr⟩
theorem laters_total {S:Hs} {B:Nat} {L:List Tl} {ch:Nat->List Nat} (h:Wf S B L ch) (c:Int):∀ (l:List Int),(∀ x ∈ l,S.has x=true) -> ∃ b,S.laters c l=some b/\(b=true ↔ ∀ x ∈ l,∃ k ∈ S.taken,x=(k:Int)/\rank S.order (c+1) < rank S.order (ow S.words k))
 | [],_=>⟨true,rfl,by simp⟩
 | x :: l,hl=>by
  obtain ⟨k,rfl,hk⟩:=has_yes (hl x (by simp));obtain ⟨b,h1,h2⟩:=laters_total h c l fun y hy=>hl y (by simp [hy])
  have ht:=h.tag_le hk;unfold Hs.laters;rw [show adr (k:Int)=some k by simp [adr]];simp only [Option.bind_eq_bind,Option.bind_some,h.tag_ hk];rw [ck_in (by omega) (by omega)];simp only [Option.bind_some]
  by_cases hr:rank S.order (ow S.words k) > rank S.order (c+1)
  . rw [if_pos hr,h1];refine ⟨b,rfl,h2.trans ⟨fun hh y hy=>?_,fun hh y hy=>hh y (by simp [hy])⟩⟩
    rcases List.mem_cons.1 hy with rfl | hy
    . exact ⟨k,hk,rfl,hr⟩
    exact hh y hy
  rw [if_neg hr];refine ⟨false,rfl,⟨(fun h=>by cases h),fun hh=>?_⟩⟩;obtain ⟨k',hk',e,hr'⟩:=hh (k:Int) (by simp);have:k=k':=by omega
  subst this;exact absurd hr' hr
theorem checkNode_total {ch:Nat->List Nat} (h:Wf S B L ch) (c:Int) (l:List Int):∃ e,S.checkNode c l=some e/\(e=0->isNode S.sizes (c+1)=true/\l.length=wz S.sizes (c+1)-4 /\ ∀ x ∈ l,∃ k ∈ S.taken,x=(k:Int)/\rank S.order (c+1) < rank S.order (ow S.words k)):=by
 unfold Hs.checkNode
 cases hw:within 0 ((S.sizes.length:Int)-1) c with
 | false=>exact ⟨3,by simp,fun h=>by cases h⟩
 | true=>
  simp only [within,Bool.and_eq_true,decide_eq_true_eq] at hw;have hc:c.toNat < S.sizes.length:=by omega
  simp only [Bool.true_eq_false,if_false];rw [rd_ow hc];simp only [Option.bind_eq_bind,Option.bind_some]
  by_cases h1:(l.length:Int) ≠ ow S.sizes c.toNat
  . exact ⟨4,by rw [if_pos h1],fun h=>by cases h⟩
  rw [if_neg h1]
  cases hh:l.all S.has with
  | false=>exact ⟨7,by simp,fun h=>by cases h⟩
  | true=>
   simp only [Bool.true_eq_false,if_false];rw [List.all_eq_true] at hh;obtain ⟨b,e1,e2⟩:=laters_total h c l hh;rw [e1];simp only [Option.bind_some]
   cases b with
   | false=>exact ⟨2,by simp,fun h=>by cases h⟩
   | true=>
    refine ⟨0,by simp,fun _=>⟨?_, ?_,e2.1 rfl⟩⟩
    . simp [isNode,within];omega
    have hne:isEnd (c+1)=false:=by
     have:=h.fr.few;simp [isEnd,within];omega
    have e3:S.sizes.getD (c+1-1).toNat 0=ow S.sizes c.toNat:=by
     rw [show c+1-1=c by omega];rfl
    unfold wz;rw [hne,e3];simp only [Bool.false_eq_true,if_false];omega
theorem new_node {ch:Nat->List Nat} (h:Wf S B L ch) {c:Int} (h1:isNode S.sizes (c+1)=true) (h2:l.length=wz S.sizes (c+1)-4) (h3:∀ x ∈ l,∃ k ∈ S.taken,x=(k:Int)/\rank S.order (c+1) < rank S.order (ow S.words k)) (h4:Hs.alike l=false):New S (c+1) l:=by
 have hne:isEnd (c+1)=false:=by
  have:=h.fr.few;simp only [isNode,within,Bool.and_eq_true,decide_eq_true_eq] at h1;simp [isEnd,within];omega
 exact ⟨by simp [okTag,h1],h2,(fun he=>by rw [hne] at he;cases he),fun _=>h3,fun _=>h4⟩
theorem make_good (h:Good S B) (c:Int) (l:List Int):∃ r e S',S.make c l=some (r,e,S')/\Good S' B/\Grown S S':=by
 obtain ⟨L,ch,hw⟩:=id h
 obtain ⟨e,h1,h2⟩:=checkNode_total hw c l
 unfold Hs.make
 rw [h1]
 simp only [Option.bind_eq_bind,Option.bind_some]
 by_cases he:e ≠ 0
 . rw [if_pos he];exact ⟨_,_,S,rfl,h,.refl _⟩
 rw [if_neg he]
 obtain ⟨k1,k2,k3⟩:=h2 (by omega)
 have hwz:=wz_ok hw.fr.toFr (t:=c+1) (by simp [okTag,k1])
 cases ha:Hs.alike l with
 | true=>
  simp only [if_true]
  cases l with
  | nil=>simp at k2;omega
  | cons x l=>exact ⟨x,0,S,rfl,h,.refl _⟩
 | false=>
  simp only [Bool.false_eq_true,if_false];obtain ⟨a,S',e,hg,hr⟩:=add_good h (new_node hw k1 k2 k3 ha);rw [e];simp only [Option.bind_some];unfold Hs.full;simp only
  split
  . exact ⟨_,_,S',rfl,hg,hr⟩
  exact ⟨_,_,S',rfl,hg,hr⟩
theorem look_total {ch:Nat->List Nat} (h:Wf S B L ch) (hn:New S t fs):∃ a,S.look t fs=some a:=by
 rcases look_spec h (ck_of h hn) (cz_lt _ _) with ⟨a,_,_,_,e⟩ | ⟨_,e⟩
 . exact ⟨a,e⟩
 exact ⟨0,e⟩
theorem find_total (h:Good S B) (c:Int) (l:List Int):∃ r e,S.find c l=some (r,e):=by
 obtain ⟨L,ch,hw⟩:=h
 obtain ⟨e,h1,h2⟩:=checkNode_total hw c l
 unfold Hs.find
 rw [h1]
 simp only [Option.bind_eq_bind,Option.bind_some]
 by_cases he:e ≠ 0
 . rw [if_pos he];exact ⟨_,_,rfl⟩
 rw [if_neg he]
 obtain ⟨k1,k2,k3⟩:=h2 (by omega)
 have hwz:=wz_ok hw.fr.toFr (t:=c+1) (by simp [okTag,k1])
 cases ha:Hs.alike l with
 | true=>
  simp only [if_true]
  cases l with
  | nil=>simp at k2;omega
  | cons x l=>exact ⟨x,0,rfl⟩
 | false=>
  simp only [Bool.false_eq_true,if_false];obtain ⟨a,e⟩:=look_total hw (new_node hw k1 k2 k3 ha);rw [e];simp only [Option.bind_some]
  split
  . exact ⟨_,_,rfl⟩
  exact ⟨_,_,rfl⟩
theorem hold_good (h:Good S B) (hB:B < 100000) (a:Int):∃ e S',S.hold a=some (e,S')/\Good S' (B+1)/\Grown S S':=by
 obtain ⟨L,ch,hw⟩:=h
 cases hh:S.has a with
 | false=>
  refine ⟨7,S,by simp [Hs.hold,hh],⟨L,ch,hw.more (by omega) (by omega)⟩,.refl _⟩
 | true=>
  obtain ⟨k,rfl,hk⟩:=has_yes hh;obtain ⟨W,e,hw',hl,_⟩:=hold_wf hw hB hk;exact ⟨0,_,e,⟨L,ch,hw'⟩,⟨rfl,rfl,hl⟩⟩
theorem drop_good (h:Good S B) (a:Int):∃ e S',S.drop a=some (e,S')/\Good S' B/\Grown S S':=by
 obtain ⟨L,ch,hw⟩:=id h
 cases hh:S.has a with
 | false=>exact ⟨7,S,by simp [Hs.drop,hh],h,.refl _⟩
 | true=>
  obtain ⟨k,rfl,hk⟩:=has_yes hh
  by_cases h0:ow S.words (k+2)=0
  . exact ⟨9,S,drop_no hw hk h0,h,.refl _⟩
  obtain ⟨W,e,hw',hl,_⟩:=drop_wf hw hk h0;exact ⟨0,_,e,⟨L,ch,hw'⟩,⟨rfl,rfl,hl⟩⟩
theorem collect_good (h:Good S B):∃ n S',S.collect=some (n,S')/\Good S' B/\Grown S S':=by
 obtain ⟨L,ch,hw⟩:=h
 obtain ⟨T,hT⟩:=live_total hw
 obtain ⟨S',L',e,hc,hw'⟩:=collect_wf hw hT
 exact ⟨_,S',e,⟨_,_,hw'⟩,⟨hc.sizes,hc.order,hc.len⟩⟩
theorem moved_good (h:Good S B):∃ M S',S.moved=some (M,S')/\Good S' B/\Grown S S':=by
 obtain ⟨L,ch,hw⟩:=h
 obtain ⟨M,m,S',L',ch',e,hm,hw',_⟩:=moved_wf hw
 exact ⟨M,S',e,⟨_,_,hw'⟩,⟨hm.sizes,hm.order,hm.len⟩⟩
theorem do_good (h:Good s.S B) (hB:B < 100000) (x:Act') (hf:0<=x.fault):∃ s',s.do' x=some s'/\Good s'.S (B+1)/\Grown s.S s'.S:=by
 have up:∀ {S:Hs},Good S B->Good S (B+1):=fun ⟨L,ch,h⟩=>⟨L,ch,h.more (by omega) (by omega)⟩
 unfold Sc.do'
 split
 . obtain ⟨r,e,S',e1,hg,hr⟩:=end_good h (fault:=x.fault) (n:=x.n) hf;rw [e1];exact ⟨_,rfl,up hg,hr⟩
 split
 . dsimp only
   split
   . exact ⟨_,rfl,up h,.refl _⟩
   split
   . obtain ⟨r,e,S',e1,hg,hr⟩:=make_good h x.a (x.list.map (nameOf s.ats));rw [e1];exact ⟨_,rfl,up hg,hr⟩
   obtain ⟨r,e,e1⟩:=find_total h x.a (x.list.map (nameOf s.ats));rw [e1];exact ⟨_,rfl,up h,.refl _⟩
 split
 . split
   . exact ⟨_,rfl,up h,.refl _⟩
   split
   . obtain ⟨e,S',e1,hg,hr⟩:=hold_good h hB (nameOf s.ats x.a);rw [e1];exact ⟨_,rfl,hg,hr⟩
   obtain ⟨e,S',e1,hg,hr⟩:=drop_good h (nameOf s.ats x.a);rw [e1];exact ⟨_,rfl,up hg,hr⟩
 split
 . obtain ⟨n,S',e1,hg,hr⟩:=collect_good h;rw [e1];exact ⟨_,rfl,up hg,hr⟩
 split
 . obtain ⟨n,S',e1,hg,hr⟩:=collect_good h;obtain ⟨M,S2,e2,hg2,hr2⟩:=moved_good hg;rw [e1];simp only [Option.bind_eq_bind,Option.bind_some];show ∃ s',((S'.moved).bind _)=some s'/\_
   rw [e2];exact ⟨_,rfl,up hg2,hr.trans hr2⟩
 exact ⟨_,rfl,up h,.refl _⟩
theorem play_good:∀ (l:List Act') (s:Sc) (B:Nat),Good s.S B->B+l.length<=100000->(∀ x ∈ l,0<=x.fault) -> ∃ s',s.play l=some s'/\Good s'.S (B+l.length)/\Grown s.S s'.S
 | [],s,B,h,_,_=>⟨s,rfl,h,.refl _⟩
 | x :: l,s,B,h,hB,hf=>by
  simp only [List.length_cons] at hB;obtain ⟨s1,e1,h1,g1⟩:=do_good h (by omega) x (hf x (by simp));obtain ⟨s2,e2,h2,g2⟩:=play_good l s1 (B+1) h1 (by omega) fun y hy=>hf y (by simp [hy])
  refine ⟨s2, ?_, ?_,g1.trans g2⟩
  . unfold Sc.play;rw [e1];exact e2
  rw [List.length_cons,show B+(l.length+1)=B+1+l.length by omega];exact h2
theorem new_wf (hz:FrOk z o) (h1:20<=n) (h2:n<=100000):∃ S,Hp.new z o n=some S/\S.sizes=z/\S.order=o/\S.words.length=n/\Wf S 0 [⟨17,n-17,true⟩] (fun _=>[]):=by
 obtain ⟨W1,e1,l1,g1⟩:=wr_ow (W:=List.replicate n (0:Int)) (i:=16) 17 (by simp;omega)
 rw [List.length_replicate] at l1
 obtain ⟨W2,e2,l2,g2⟩:=wr_ow (W:=W1) (i:=18) ((n:Int)-17) (by omega)
 have G:∀ j,ow W2 j=if j=18 then (n:Int)-17 else if j=16 then 17 else 0:=fun j=>by rw [g2,g1,ow_rep]
 refine ⟨⟨z,o,W2,[]⟩, ?_,rfl,rfl,l2.trans l1, ?_⟩
 . unfold Hp.new;rw [e1];simp only [Option.bind_eq_bind,Option.bind_some];rw [e2];rfl
 exact
 { fr:=hz
   lo:=by show 20<=W2.length;omega
   hi:=by show W2.length<=100000;omega
   bd:=by omega
   parts:=by
    show Parts (ow W2) z _ W2.length;refine ⟨⟨rfl,by show 3<=n-17;omega, ?_⟩,⟨?_, ?_⟩,trivial,fun t ht=>?_⟩
    . show 17+(n-17)=W2.length;omega
    . rw [G];rfl
    . show ow W2 (17+2)=0;rw [G];rfl
    have:t=⟨17,n-17,true⟩:=by simpa using ht
    subst this;unfold PartOk;simp only [if_true];refine ⟨by rw [G];rfl, ?_,fun j h1 h2=>?_⟩
    . show ow W2 18=((n-17:Nat):Int);rw [G,if_pos rfl];omega
    rw [G,if_neg (by omega),if_neg (by omega)]
   taken:=rfl
   chains:=⟨fun c hc=>by show ow W2 c=0;rw [G,if_neg (by omega),if_neg (by omega)],by simp,by simp⟩
   cells:=⟨by simp,by simp,by simp,by simp,by simp⟩
   uses:=fun a ha=>by cases ha
   holds:=fun a ha=>by cases ha }
end Hp
open Go.RowKit Go.Maps Go.Sort Go.Shelf
theorem wpList_next_left {P:Program} (w:World) {ops:Array Oper} {rest:List Oper} {o:Oper} {a:Act} {Q:Exit->Act->World->Prop} (hg:o.guard=none) (it:Operand) (hop:o.op=Op.next it false)
    (hk:P.underlying 3=some (.int .i64)) (he:P.underlying 4=some .bool) (b r n:Nat) (T:List Nat) (left:Lit->Bool) (cnt:Nat) (hit:a.eval it = .pointer (some ⟨r,0,none⟩))
    (h:w.ranges P 3 (plainElem (H:=Unit) P 4) b r n (mapOf T) left cnt)
    (hDone:(∀ kl,left kl=false)->wpList P ops Q rest (a.put o.dst (.tuple #[.bool false])) w)
    (hMore:∀ (x:Nat) (c:Value) (w':World) (cnt':Nat),x ∈ T->left (.int .i64 x)=true->w'.ranges P 3 (plainElem (H:=Unit) P 4) b r n (mapOf T) (fun z=>left z && !z.sameKey (.int .i64 x)) cnt'->cnt' < cnt ->
     But [r] w w'->(Instr.entry (.pointer (some ⟨r,0,none⟩))).run P w' = .ok (.tuple #[.int .i64 x,c]) w'->wpList P ops Q rest (a.put o.dst (.tuple #[.bool true,.int .i64 x,c])) w') :
    wpList P ops Q (o :: rest) a w:=by
  refine wpList_next_ranges w hg it hop 3 (int_keyed hk) (plainElem (H:=Unit) P 4) (Value.int .i64) Value.bool (fun key kl hkey=>by obtain ⟨x,rfl,_⟩:=Maps.keyOf_int_inv hk hkey;exact ⟨x,rfl⟩)
   (fun v y hv=>by
    unfold plainElem at hv;rw [he] at hv
    cases v <;> simp at hv
    exact ⟨_,rfl⟩) b r n _ left cnt hit h (fun _ hl=>hDone hl) ?_
  intro x c kl y w' cnt' hkey hl hv hat hrg hlt hgr _ hen;obtain ⟨x',ex,rfl,_⟩:=Maps.keyOf_int_inv hk hkey
  cases ex
  have hy:y=(.lit (.bool c),[]):=by
   unfold plainElem at hv;rw [he] at hv
   simpa using hv.symm
  subst hy;have hin:hasLit T (.int .i64 x)=true:=by
   cases hh:hasLit T (.int .i64 x) with
   | true=>rfl
   | false=>
    have:=hat (.map []);rw [at_mapOf_false hh] at this
    cases this
  obtain ⟨m,hm,e⟩:=(hasLit_iff T _).1 hin
  cases e
  exact hMore m (.bool c) w' cnt' hm hl hrg hlt (but_grown hgr) hen
structure SeenInv (T D:List Nat) (left:Lit->Bool):Prop where
 nd:D.Nodup
 sub:∀ x ∈ D,x ∈ T
 all:∀ x ∈ T,left (.int .i64 (x:Int))=false->x ∈ D
 out:∀ x ∈ D,left (.int .i64 (x:Int))=false
theorem SeenInv.nil (T:List Nat):SeenInv T [] (Maps.has (mapOf T)) where
 nd:=List.Pairwise.nil
 sub:=by simp
 all x hx h:=by
  rw [has_mapOf,hasLit_int] at h;have:T.contains x=true:=by simpa using hx
  rw [this] at h
  cases h
 out:=by simp
theorem SeenInv.step {D:List Nat} {left:Lit->Bool} {x:Nat} (h:SeenInv T D left) (hx:x ∈ T) (hl:left (.int .i64 (x:Int))=true):SeenInv T (D ++ [x]) (fun z=>left z && !z.sameKey (.int .i64 x)):=by
 have hn:x ∉ D:=fun hm=>by
  have:=h.out x hm;rw [hl] at this
  cases this
 refine ⟨List.nodup_append.2 ⟨h.nd,by simp,fun a ha b hb e=>?_⟩,fun y hy=>?_,fun y hy hh=>?_,fun y hy=>?_⟩
 . have:b=x:=by simpa using hb
   subst this e;exact hn ha
 . rcases List.mem_append.1 hy with hy | hy
   . exact h.sub y hy
   have:y=x:=by simpa using hy
   subst this;exact hx
 . rcases left_false hh with h1 | rfl
   . simp [h.all y hy h1]
   simp
 rcases List.mem_append.1 hy with hy | hy
 . show (left (.int .i64 (y:Int)) && _)=false;rw [h.out y hy];rfl
 have:y=x:=by simpa using hy
 subst this
 show (left (.int .i64 (y:Int)) && !(Lit.int .i64 (y:Int)).sameKey (.int .i64 y))=false
 simp [Lit.sameKey]
theorem SeenInv.perm {D:List Nat} {left:Lit->Bool} (h:SeenInv T D left) (hT:T.Nodup) (hl:∀ kl,left kl=false):D.Perm T:=by
 rw [List.perm_ext_iff_of_nodup h.nd hT]
 exact fun x=>⟨h.sub x,fun hx=>h.all x hx (hl _)⟩
theorem Hp.Wf.cnt_le' {ch:Nat->List Nat} (h:Hp.Wf S B L ch) (a:Nat):Hp.cnt (Hp.ow S.words) S.sizes a S.taken<=100000:=by
 have h1:=Hp.cnt_le (f:=Hp.ow S.words) (z:=S.sizes) a S.taken
 have h3:=h.widths_
 have h4:=h.hi
 omega
theorem cnt_sub {f:Nat->Int} {z:List Int} {a:Nat}:∀ {D T:List Nat},D.Nodup->(∀ x ∈ D,x ∈ T)->Hp.cnt f z a D<=Hp.cnt f z a T
 | [],_,_,_=>Nat.zero_le _
 | b :: D,T,hd,hs=>by
  obtain ⟨d1,d2⟩:=List.nodup_cons.1 hd;have hb:=hs b (by simp);have h1:=cnt_sub (f:=f) (z:=z) (a:=a) (D:=D) (T:=T.erase b) d2 fun x hx=>(List.mem_erase_of_ne (by rintro rfl;exact d1 hx)).2 (hs x (by simp [hx]))
  have h2:=Hp.cnt_perm (f:=f) (z:=z) (a:=a) (List.perm_cons_erase hb);rw [h2];show (Hp.kz f z b).count (a:Int)+Hp.cnt f z a D<=(Hp.kz f z b).count (a:Int)+Hp.cnt f z a (T.erase b);omega
def CollPost (w W:World) (T:List Nat) (e:Ending) (w':World):Prop:=∃ p c ss,e = .returned (.slice p ss.length c)/\ss.Perm (natInts T)/\SliceAt w' p c ss/\Ext W w'
theorem collectB_call (h:MapAt Tryz.prog w g T) (hT:∀ x ∈ T,x < 1000000) :
    Calls Tryz.prog 129 #[.func (.func 171) #[] #[.pointer (some ⟨w.heap.size,0,none⟩)]] (w.alloc (.cells #[.map (some g)] 102)) (CollPost w (w.alloc (.cells #[.map (some g)] 102)) T):=by
  have hbl:=h.lt;have hlen:=sorted_len h.sorted hT;have hown:=h.owns
  have hseq:SeqGives Fence.wide 3 Tryz.prog 171 #[.pointer (some ⟨w.heap.size,0,none⟩)] encZ (fun ss=>ss.Perm (intKeys (mapOf T))) (Maps.size (mapOf T)) (w.alloc (.cells #[.map (some g)] 102)):=
   AnyZI.keys_gives (ρ:=Tryz.keysB_ren) { Tryz.keysB with } Fence.wide _ trivial rfl (by omega) w.heap.size g T.length (mapOf T) _ (by simp) (by simp) (hown.alloc _)
  have cS:=AnyZI.collect_in (ρ:=Tryz.sortedA_ren) { Tryz.sortedA with } Fence.wide 5 trivial trivial rfl (by omega) 171 #[.pointer (some ⟨w.heap.size,0,none⟩)] trivial (enters_of Tryz.func171 (by kernel_rfl) rfl) _ _ (by rw [size_mapOf];unfold maxLen;omega) (by rw [size_mapOf];omega) _ hseq;refine (callsIn_wide.1 cS).mono ?_;rintro e w' ⟨v,ss,rfl,hS,hrow,hnil,hb⟩;rw [intKeys_mapOf] at hS;have hl:ss.length=T.length:=by rw [hS.length_eq,natInts_length]
  have hbd:∀ x ∈ ss,-9223372036854775808<=x/\x<=9223372036854775807:=by
   intro x hx;obtain ⟨y,hy,rfl⟩:=List.mem_map.1 (hS.mem_iff.1 hx);have:=hT y hy;omega
  rcases hrow.2 with ⟨rfl,hz⟩ | ⟨gb,cap,cur,rfl,hbase,hgb,r1,r2,r3,r4⟩
  . have:ss=[]:=List.eq_nil_of_length_eq_zero hz;subst this;exact ⟨none,0,[],rfl,hS,⟨by simp,by omega,by simp,fun h=>by simp at h⟩,hb⟩
  refine ⟨some ⟨gb,0,none⟩,cap,ss,rfl,hS,⟨by omega,by unfold maxLen at *;omega,hbd,fun h0=>⟨gb,0,rfl,(Array.getElem?_eq_some_iff.1 hgb).1,fun j x hj=>?_⟩⟩,hb⟩;have hj2:(ss.map encZ)[j]? = some (.int .i64 x):=by
   unfold Hp.rd at hj;simp [hj,encZ]
  have:=hrow.cells (g:=gb) rfl j _ hj2;rw [Addr.add_lit] at this
  simpa using this
def CountsAre (S:Hp.Hs) (D:List Nat) (part:List Int) (M:List (Nat × Int)):Prop:=∀ y:Nat,(getI y M).getD 0=((Hp.cnt (Hp.ow S.words) S.sizes y D+part.count (y:Int):Nat):Int)
theorem CountsAre.put {D:List Nat} {part:List Int} (h:CountsAre S D part M) (hu:KeysUp M):CountsAre S D (part ++ [(b:Int)]) (putI b ((getI b M).getD 0+1) M):=fun y=>by
 rw [getI_put hu,List.count_append]
 by_cases e:y=b
 . subst e;rw [if_pos rfl,Option.getD_some,h y];simp;omega
 rw [if_neg e,h y]
 have:List.count (y:Int) [(b:Int)]=0:=by
  rw [List.count_eq_zero];simp;omega
 rw [this]
 rfl
theorem keys_len (h:KeysUp M) (hb:∀ q ∈ M,q.1 < n):M.length<=n:=by
 have h1:(M.map fun q=>q.1).Pairwise (· < ·):=by
  rw [List.pairwise_map];exact h
 have:=sorted_len (n:=n) h1 (fun a ha=>by
  obtain ⟨q,hq,rfl⟩:=List.mem_map.1 ha;exact hb q hq)
 simpa using this
set_option maxRecDepth 100000 in
set_option maxHeartbeats 8000000 in
theorem areUsed_any {lb:Nat} {v:Value} {G:List Int} {ch:Nat->List Nat} (h:LdAt w0 w lb d S v p k G) (hw:Hp.Wf S B L ch) :
    Calls Tryz.prog 64 #[.pointer (some ⟨lb,0,none⟩)] w fun e w'=>e = .returned (.bool true)/\Ext w w':=by
  have H:=hZ h;have HW:=hZ hw;have hhi:=hw.hi;have z1:=h.toHAt.own_lt;have zl:=h.lt1;clear h hw;have hmm:=@run_makeMap Tryz.prog;go_enter Tryz.func64,Tryz.ntmps64;go_upto_region 2 with (fail)
  have E0:Ext w (((w.alloc (.cells #[.pointer (some ⟨lb,0,none⟩)] 107)).alloc (.map #[] 0)).alloc (.cells #[.map (some (w.heap.size+1))] 119)):=exx;have x1:(((w.alloc (.cells #[.pointer (some ⟨lb,0,none⟩)] 107)).alloc (.map #[] 0)).alloc (.cells #[.map (some (w.heap.size+1))] 119)).cell? ⟨w.heap.size,0,none⟩=some (.pointer (some ⟨lb,0,none⟩)):=by go_simp
  have x3:(((w.alloc (.cells #[.pointer (some ⟨lb,0,none⟩)] 107)).alloc (.map #[] 0)).alloc (.cells #[.map (some (w.heap.size+1))] 119)).cell? ⟨w.heap.size+1+1,0,none⟩=some (.map (some (w.heap.size+1))):=by go_simp
  have sz:(((w.alloc (.cells #[.pointer (some ⟨lb,0,none⟩)] 107)).alloc (.map #[] 0)).alloc (.cells #[.map (some (w.heap.size+1))] 119)).heap.size=w.heap.size+3:=by simp
  have MI0:MapIAt Tryz.prog (((w.alloc (.cells #[.pointer (some ⟨lb,0,none⟩)] 107)).alloc (.map #[] 0)).alloc (.cells #[.map (some (w.heap.size+1))] 119)) (w.heap.size+1) []:=by
   have:=(MapIAt.made (P:=Tryz.prog) (w.alloc (.cells #[.pointer (some ⟨lb,0,none⟩)] 107))).ext (Ext.alloc (Ext.refl _) (.cells #[.map (some (w.heap.size+1))] 119))
   simpa using this
  generalize ((w.alloc (.cells #[.pointer (some ⟨lb,0,none⟩)] 107)).alloc (.map #[] 0)).alloc (.cells #[.map (some (w.heap.size+1))] 119)=wc at *;have N0:=hZ (H.out.ext E0);have h0:=N0.out.h0;have c3:=N0.out.c3;have ownd:=N0.out.map.owns
  go_wp2_with (at_range;refine wpList_range_own _ rfl _ 102 rfl 3 4 (int_keyed Tryz.underlying3) Tryz.underlying102 _ d.gm _ _ rfl ownd ?_;intro w1 hrg0 hg0 hs0;go_frame)
  have E1:Ext wc w1:=⟨hg0.os,hg0.tape,hg0.output,hg0.size,fun k hk=>hg0.block k hk (by simp)⟩
  have E01:=hZ (E0.trans E1);have MI1:=hZ (MI0.ext E1);have RG:=hZ hrg0;have y1:=(E1.cell (b:=w.heap.size) (by omega) 0).trans x1;have y3:=(E1.cell (b:=w.heap.size+1+1) (by omega) 0).trans x3;have Y:=hZ (And.intro y1 y3);have sz1:wc.heap.size < w1.heap.size:=by omega
  rw [sz] at sz1 RG ⊢;clear hrg0 ownd c3 h0 hg0 hs0 E1 E0 MI0 x1 x3 y1 y3 N0 sz;generalize hrr:w.heap.size+3=rr at RG sz1 ⊢
  go_loopg [4] (Maps.size (mapOf S.taken)) (fun g _ wr=>∃ (left:Lit->Bool) (cnt:Nat) (D:List Nat) (M:List (Nat × Int)),cnt<=g/\Hid (wr.ranges Tryz.prog 3 (plainElem (H:=Unit) Tryz.prog 4) d.gm rr S.taken.length (mapOf S.taken) left cnt)/\Hid (MapIAt Tryz.prog wr (w.heap.size+1) M)/\Hid (Ext w wr)/\Hid (wr.cell? ⟨w.heap.size,0,none⟩=some (.pointer (some ⟨lb,0,none⟩))/\wr.cell? ⟨w.heap.size+1+1,0,none⟩=some (.map (some (w.heap.size+1))))/\Hid (CountsAre S D [] M)/\Hid (∀ q ∈ M,q.1 < S.words.length)/\Aside (SeenInv S.taken D left))
  case atStart=>exact ⟨_,_,[],[],Nat.le_refl _,RG,MI1,E01,Y,hZ (fun y=>by simp [getI,Hp.cnt]),hZ (by simp),SeenInv.nil _⟩
  case round=>
   obtain ⟨left,cnt,D,M,hg,RR,MM,EE,YY,CA,KB,SI⟩:=hrel;clear RG MI1 E01 Y
   go_wp2_with (at_next;refine wpList_next_left _ rfl _ rfl Tryz.underlying3 Tryz.underlying4 d.gm rr _ S.taken left cnt rfl RR.out ?_ ?_)
   . intro hl;have hperm:=SI.out.perm (Hp.up_nodup HW.out.up) hl;have hca:∀ y:Nat,(getI y M).getD 0=((Hp.cnt (Hp.ow S.words) S.sizes y S.taken:Nat):Int):=fun y=>by
      rw [CA.out y,Hp.cnt_perm hperm];simp
     have N:=hZ (H.out.ext EE.out);have h0:=N.out.h0;have c3:=N.out.c3;obtain ⟨y1,y3⟩:=YY.out;have KEYS:=hZ (fun W=>keysB_call d.gm W);have hlt6:∀ x ∈ S.taken,x < 1000000:=fun x hx=>by have:=HW.out.part hx;omega
     have COLL:=hZ (collectB_call N.out.map hlt6);have HCA:=hZ hca;clear hca hperm hlt6
     go_wp2_with (first
      | (go_at_call 130;refine (KEYS.out _).mono ?_;rintro e w5 ⟨rfl,rfl⟩)
      | (go_at_call 129;refine COLL.out.mono ?_;rintro e w6 ⟨p6,c6,ss,rfl,hP6,hS6,hE6⟩))
     have EX6:Ext wr w6:=Ext.trans (exx) hE6;have N6:=hZ (N.out.ext EX6);have SAYS:SaysAll w6 131 #[] #[.pointer (some ⟨w.heap.size,0,none⟩),.pointer (some ⟨w.heap.size+1+1,0,none⟩)] ss (fun _=>true):=fun j x hx _ W hW=>by
      obtain ⟨a,ha,rfl⟩:=List.mem_map.1 (hP6.mem_iff.1 (List.mem_of_getElem? hx));have pa:=HW.out.part ha;have zz1:=cell_lt y1;have zz3:=cell_lt y3;have EXW:=EX6.trans hW;have hc:=areUsed1_any (a:=a) (N6.out.ext hW) ((EXW.cell zz1 0).trans y1) ((EXW.cell zz3 0).trans y3) (MM.out.ext EXW) (by omega);have hu:=HW.out.uses a ha;have hh:=HW.out.holds a ha;have e1:Hp.usedB S.words M (a:Int)=true:=by
       unfold Hp.usedB;rw [Int.toNat_natCast,Hp.rd_ow (by omega),Hp.rd_ow (by omega)];simp only [Bool.and_eq_true,beq_iff_eq,decide_eq_true_eq];rw [HCA.out a,hu];exact ⟨rfl,hh.1⟩
      rw [e1] at hc
      simpa using hc
     have EV:=hZ (every_any (b:=true) (enters_of Tryz.func131 (by kernel_rfl) rfl) hS6 SAYS (by simp));have EEX:=hZ (EE.out.trans EX6);clear SAYS hS6 hP6 EX6;refine EV.out.mono ?_;rintro e w7 ⟨rfl,hE7⟩
     go_wp2_with fail
     go_returns;exact ⟨rfl,EEX.out.trans hE7⟩
   intro x c w' cnt' hx hlx hrg' hlt hbut hen;have hbx:But [rr] wr w':=hbut;have E2:=hZ (But.toExt EE.out hbut (by simp;omega));have N:=hZ (H.out.ext E2.out);have h0:=N.out.h0;obtain ⟨y1,y3⟩:=YY.out;have y1':=(hbut.cell (cell_lt y1) (by simp;omega) 0).trans y1;have y3':=(hbut.cell (cell_lt y3) (by simp;omega) 0).trans y3;have M2:=hZ (MM.out.but hbut (by simp;omega));have Y2:=hZ (And.intro y1' y3');have RN:=hZ hrg';have px:=HW.out.part hx;have S2:=SI.out.step hx hlx;have S2H:=hZ S2;obtain ⟨ks,hks⟩:∃ ks,Hp.kz (Hp.ow S.words) S.sizes x=ks:=⟨_,rfl⟩
   obtain ⟨t,ht⟩:∃ t,Hp.ow S.words x=t:=⟨_,rfl⟩
   have ktag:=HW.out.tag_ hx;rw [ht] at ktag;have kkids:=HW.out.kids_ hx;rw [hks] at kkids;have KIDS:=hZ (fun W (hW:Ext w W)=>kids_any (H.out.ext hW).toHAt ktag kkids);have KAT:=hZ (fun W (hW:Ext w W)=>kids_at (H.out.ext hW).toHAt ktag kkids);have kl:=Hp.kz_len (f:=Hp.ow S.words) (z:=S.sizes) (a:=x);rw [hks] at kl;have kl12:ks.length<=12:=by omega
   have KN:∀ j y,Hp.rd ks j=some y -> ∃ b:Nat,y=b/\b ∈ S.taken:=fun j y hy=>by
    rw [<- hks] at hy;obtain ⟨b,hb,e,_⟩:=HW.out.cells.kids x hx y (List.mem_of_getElem? hy);exact ⟨b,e,hb⟩
   have KNH:=hZ KN;have HKS:=hZ hks;obtain ⟨pk,hpk⟩:∃ pk,kp d x t=pk:=⟨_,rfl⟩
   rw [hpk] at KIDS KAT;clear hrg' hbut hx hlx S2 px ktag kkids hks ht kl KN y1 y3 YY EE RR MM SI hpk hmm;have CB:Hid (∀ y,Hp.cnt (Hp.ow S.words) S.sizes y D<=100000):=hZ (fun y=>by
    have h1:=cnt_sub (f:=Hp.ow S.words) (z:=S.sizes) (a:=y) (D:=D) (T:=S.taken) (by
     have:=S2H.out.nd;exact (List.nodup_append.1 this).1) (fun q hq=>S2H.out.sub q (by simp [hq]))
    have h2:=HW.out.cnt_le' y;omega)
   go_wp2_with (go_at_call 80;refine (KIDS.out _ E2.out).mono ?_;rintro e w5 ⟨rfl,hE5⟩)
   have RN5:=hZ (ranges_of RN.out (hE5.block _ (by have:=RN.out.lt;have:=N.out.map.lt;omega)) (hE5.block _ RN.out.lt));have M5:=hZ (M2.out.ext hE5);have E5:=hZ (E2.out.trans hE5);have Y5:=hZ (And.intro ((hE5.cell (cell_lt Y2.out.1) 0).trans Y2.out.1) ((hE5.cell (cell_lt Y2.out.2) 0).trans Y2.out.2))
   go_loopg [27] ks.length (fun g i wx=>∃ (j:Nat) (M':List (Nat × Int)),j<=ks.length/\ks.length-j<=g/\i = .int .i64 j/\Hid (wx.ranges Tryz.prog 3 (plainElem (H:=Unit) Tryz.prog 4) d.gm rr S.taken.length (mapOf S.taken) (fun z=>left z && !z.sameKey (.int .i64 x)) cnt')/\Hid (MapIAt Tryz.prog wx (w.heap.size+1) M')/\Hid (Ext w wx)/\Hid (wx.cell? ⟨w.heap.size,0,none⟩=some (.pointer (some ⟨lb,0,none⟩))/\wx.cell? ⟨w.heap.size+1+1,0,none⟩=some (.map (some (w.heap.size+1))))/\Hid (CountsAre S D (ks.take j) M')/\Hid (∀ q ∈ M',q.1 < S.words.length))
   case atStart=>exact ⟨0,M,Nat.zero_le _,by omega,rfl,RN5,M5,E5,Y5,hZ (by simpa using CA.out),KB⟩
   case round=>
    obtain ⟨j,M',hj,hg2,rfl,R6,M6,E6,Y6,C6,K6⟩:=hrel;clear RN5 M5 E5 Y5 RN M2 E2 Y2 N h0 y1' y3' hE5;obtain ⟨y1,y3⟩:=Y6.out
    by_cases hlt2:j < ks.length
    . obtain ⟨y,hy⟩:=rd_get (l:=ks) (j:=j) hlt2;obtain ⟨b,rfl,hb⟩:=KNH.out j y hy;obtain ⟨kb,ko,hkp,hkb,hkc⟩:=(KAT.out _ E6.out).cells (by omega);have gk:=hkc j _ hy;have pb:=HW.out.part hb;have tk:decide ((j:Int) < (ks.length:Int))=true:=dT;have tk2:decide (j < ks.length)=true:=dT;have hlk:=M6.out.look (t:=119) Tryz.underlying3 Tryz.underlying119 (Tryz.zeroValue3 wr) (k:=b) (by omega);have hcv:=C6.out b;have hcb:=CB.out b;have hcl:=List.count_le_length (a:=(b:Int)) (l:=ks.take j);have hcl2:(ks.take j).length<=ks.length:=List.length_take_le' _ _;obtain ⟨cv,hcv2⟩:∃ cv,(getI b M').getD 0=cv:=⟨_,rfl⟩
      rw [hcv2] at hlk hcv;have hcv3:0<=cv/\cv<=200000:=by omega
      obtain ⟨cv1,cv2⟩:=hcv3;have hml:=keys_len M6.out.up K6.out;obtain ⟨w7,hup,hm7,ht7⟩:=M6.out.put (t:=119) Tryz.underlying3 Tryz.underlying119 (by unfold maxLen;omega) (a:=b) (x:=cv+1) (by omega) (by omega) (by omega);have B7:But [w.heap.size+1] wr w7:=(But.refl _ _).turned ht7 (.inl (by simp));have E7:=hZ (But.toExt E6.out B7 (by simp));have own1:=H.out.toHAt.own_lt _ d.gm_own;have R7:=hZ (ranges_of R6.out (B7.block _ (by have:=E6.out.le;omega) (by simp;omega)) (B7.block _ R6.out.lt (by simp;omega)));have Y7:=hZ (And.intro ((B7.cell (cell_lt y1) (by simp) 0).trans y1) ((B7.cell (cell_lt y3) (by simp) 0).trans y3));have M7:=hZ hm7
      have C7:Hid (CountsAre S D (ks.take (j+1)) (putI b (cv+1) M')):=hZ (by
       rw [take_snocI hy,<- hcv2];exact C6.out.put M6.out.up)
      have K7:Hid (∀ q ∈ putI b (cv+1) M',q.1 < S.words.length):=hZ (fun q hq=>by
       rcases keys_put hq with e | ⟨q',hq',e⟩
       . rw [e];omega
       . rw [<- e];exact K6.out q' hq')
      clear hcv hcb hcl hcl2 hcv2 hml hm7 ht7 B7 own1 hkc hy hb pb;subst hkp
      go_wp2_with fail
      go_roundg (ks.length-(j+1))
      case measure=>omega
      case rel=>exact ⟨j+1,_,by omega,Nat.le_refl _,by go_num,R7,M7,E7,Y7,C7,K7⟩
    have:j=ks.length:=by omega
    subst this;have tk:decide ((ks.length:Int) < (ks.length:Int))=false:=dF;have tk2:decide (ks.length < ks.length)=false:=dF;have C8:Hid (CountsAre S (D ++ [x]) [] M'):=hZ (fun y=>by
     rw [C6.out y,List.take_length,Hp.cnt_app];show _=((Hp.cnt _ _ y D+(List.count (y:Int) (Hp.kz (Hp.ow S.words) S.sizes x)+0)+0:Nat):Int);rw [HKS.out];rfl)
    go_wp2_with fail
    go_roundg cnt'
    case measure=>omega
    case rel=>exact ⟨_,cnt',D ++ [x],M',Nat.le_refl _,R6,M6,E6,Y6,C8,K6,(show Aside _ from S2H.out)⟩
open Go.RowKit Go.Maps
theorem cellKT:Tryz.prog.keyTypeAt 3 152=true:=by kernel_rfl
theorem cellTI:Tryz.prog.tiled 3 152=true:=by kernel_rfl
theorem three_le:3+1<=10000:=Nat.le_of_ble_eq_true (by kernel_rfl)
theorem cellLaw:WideMaps.KeyLaw Tryz.prog 152:=deep_law (m:=3) three_le cellKT cellTI (by rw [Tryz.underlying152])
theorem cellKeyed:Maps.Keyed Tryz.prog 152:=Maps.Keyed.of_law cellLaw
theorem keyLits_int (d:Nat) (h : -9223372036854775808<=x/\x<=9223372036854775807):Tryz.prog.keyLits (d+1) 3 [.int .i64 x]=some [.int .i64 x]:=by
 unfold Program.keyLits
 rw [Tryz.underlying3]
 have wf:(Lit.int .i64 x).wf=true:=WalkArith.wf_i64 (by omega)
 simp [wf]
theorem types_le:3<=Tryz.prog.types.size:=Nat.le_of_ble_eq_true (by kernel_rfl)
theorem cellsOf_cell:Tryz.prog.cellsOf 152=13:=by kernel_rfl
theorem cellsOf_arr:Tryz.prog.cellsOf 150=12:=by kernel_rfl
theorem cellsOf_int:Tryz.prog.cellsOf 3=1:=by kernel_rfl
theorem keyType_cell:Tryz.prog.keyType 152=true:=by kernel_rfl
theorem keyOf_cell (hl:l.length=13) (h:∀ x ∈ l,-9223372036854775808<=x/\x<=9223372036854775807):∃ k,keyOf Tryz.prog 152 (.agg (ints l).toArray)=some k:=by
 match l,hl with
 | [a0,a1,a2,a3,a4,a5,a6,a7,a8,a9,a10,a11,a12],_=>
  obtain ⟨d,hd⟩:∃ d,Tryz.prog.types.size=d+2:=⟨Tryz.prog.types.size-2,by have:=types_le;omega⟩
  have e:∀ x ∈ [a0,a1,a2,a3,a4,a5,a6,a7,a8,a9,a10,a11,a12],∀ d,Tryz.prog.keyLits (d+1) 3 [.int .i64 x]=some [.int .i64 x]:=fun x hx d=>keyLits_int d (h x hx)
  have arr:∃ k,Tryz.prog.keyLits (d+2) 150 [.int .i64 a1,.int .i64 a2,.int .i64 a3,.int .i64 a4,.int .i64 a5,.int .i64 a6,.int .i64 a7,.int .i64 a8,.int .i64 a9,.int .i64 a10,.int .i64 a11,.int .i64 a12]=some k:=by
   unfold Program.keyLits;rw [Tryz.underlying150];simp only [cellsOf_arr,cellsOf_int];simp [List.range,List.range.loop,e a1 (by simp),e a2 (by simp),e a3 (by simp),e a4 (by simp),e a5 (by simp),e a6 (by simp),e a7 (by simp),e a8 (by simp),e a9 (by simp),e a10 (by simp),e a11 (by simp),e a12 (by simp)]
  obtain ⟨k,hk⟩:=arr;have top:∃ k,Tryz.prog.keyLits (d+3) 152 [.int .i64 a0,.int .i64 a1,.int .i64 a2,.int .i64 a3,.int .i64 a4,.int .i64 a5,.int .i64 a6,.int .i64 a7,.int .i64 a8,.int .i64 a9,.int .i64 a10,.int .i64 a11,.int .i64 a12]=some k:=by
   unfold Program.keyLits;rw [Tryz.underlying152];simp only [cellsOf_cell];simp [cellsOf_arr,cellsOf_int,e a0 (by simp),hk]
  obtain ⟨k',hk'⟩:=top;unfold keyOf;rw [Tryz.underlying152];simp only;have hf:(Value.agg (ints [a0,a1,a2,a3,a4,a5,a6,a7,a8,a9,a10,a11,a12]).toArray).formed Tryz.prog 152=true:=by
   simp [Value.formed,Tryz.underlying152,cellsOf_cell,ints]
  rw [keyType_cell,hf,hd];simp only [Bool.and_self,if_true];rw [show (Value.agg (ints [a0,a1,a2,a3,a4,a5,a6,a7,a8,a9,a10,a11,a12]).toArray).cells.toList=[.int .i64 a0,.int .i64 a1,.int .i64 a2,.int .i64 a3,.int .i64 a4,.int .i64 a5,.int .i64 a6,.int .i64 a7,.int .i64 a8,.int .i64 a9,.int .i64 a10,.int .i64 a11,.int .i64 a12] from rfl,hk'];exact ⟨_,rfl⟩
def KeysAt (w:World) (g:Nat) (Ks:List (List Int)):Prop:=∃ D:DataW Unit,w.ownsMap Tryz.prog 152 (plainElem (H:=Unit) Tryz.prog 4) g Ks.length D /\ ∀ (l:List Int) (kl:Lit),l ∉ Ks->keyOf Tryz.prog 152 (.agg (ints l).toArray)=some kl -> ∀ z,D.atKey kl z=z
theorem ints_inj:∀ {a b:List Int},ints a=ints b->a=b
 | [],[],_=>rfl
 | [],_ :: _,h=>by simp [ints] at h
 | _ :: _,[],h=>by simp [ints] at h
 | x :: a,y :: b,h=>by
  simp only [ints,List.map_cons,List.cons.injEq] at h;obtain ⟨h1,h2⟩:=h;injection h1 with _ h1
  rw [h1,ints_inj h2]
namespace KeysAt
variable {w w':World} {g:Nat} {Ks:List (List Int)}
theorem made (w:World):KeysAt (w.alloc (.map #[] 0)) w.heap.size []:=
 ⟨_,World.ownsMap_made w Tryz.prog 152 (plainElem (H:=Unit) Tryz.prog 4),fun _ _ _ _ _=>rfl⟩
theorem lt (h:KeysAt w g Ks):g < w.heap.size:=by
 obtain ⟨D,h1,_⟩:=h
 exact h1.lt
theorem ofBlock (h:KeysAt w g Ks) (e:w'.heap[g]? = w.heap[g]?):KeysAt w' g Ks:=by
 obtain ⟨D,⟨es,clock,hb,r⟩,h2⟩:=h
 exact ⟨D,⟨es,clock,e.trans hb,r⟩,h2⟩
theorem but (h:KeysAt w g Ks) {l:List Nat} (k:But l w w') (hg:g ∉ l):KeysAt w' g Ks:=h.ofBlock (k.block g h.lt hg)
theorem ext (h:KeysAt w g Ks) (k:Ext w w'):KeysAt w' g Ks:=h.ofBlock (k.block g h.lt)
theorem look (h:KeysAt w g Ks) (hl:l.length=13) (hb:∀ x ∈ l,-9223372036854775808<=x/\x<=9223372036854775807) (hn:l ∉ Ks):(Instr.lookup 149 (.map (some g)) (.agg (ints l).toArray) false).run Tryz.prog w = .ok (.bool false) w:=by
 obtain ⟨D,h1,h2⟩:=h
 obtain ⟨kl,hk⟩:=keyOf_cell hl hb
 obtain ⟨v,ps,hrun,hv⟩:=h1.lookup cellKeyed Tryz.underlying149 (Tryz.zeroValue4 w) (plainElem_bool Tryz.underlying4 false) hk
 rw [hrun]
 rw [h2 l kl hn hk] at hv
 rw [plainElem_bool_inv Tryz.underlying4 hv]
theorem put (h:KeysAt w g Ks) (hl:l.length=13) (hb:∀ x ∈ l,-9223372036854775808<=x/\x<=9223372036854775807) (hn:Ks.length < maxLen):∃ w',(Instr.mapUpdate 149 (.map (some g)) (.agg (ints l).toArray) (.bool true)).run Tryz.prog w = .ok () w'/\KeysAt w' g (l :: Ks)/\w.mapTurned w' g:=by
 obtain ⟨D,h1,h2⟩:=h
 obtain ⟨kl,hk⟩:=keyOf_cell hl hb
 obtain ⟨w',hrun,ho,ht⟩:=h1.store cellKeyed Tryz.underlying149 hn hk (plainElem_bool Tryz.underlying4 true)
 refine ⟨w',hrun,⟨_,ho,fun l' kl' hm hk' z=>?_⟩,ht⟩
 simp only [List.mem_cons,not_or] at hm
 rw [atKey_put_other (fun e=>hm.1 ?_)]
 . exact h2 l' kl' hm.2 hk' z
 subst e
 have h3:=Value.agg.inj (cellKeyed.inj hk' hk)
 exact ints_inj (List.toArray_inj h3)
end KeysAt
def keyL (S:Hp.Hs) (a:Nat):List Int:=Hp.ow S.words a :: (Hp.fz (Hp.ow S.words) S.sizes a ++ List.replicate (12-(Hp.fz (Hp.ow S.words) S.sizes a).length) 0)
theorem keyL_len {ch:Nat->List Nat} (h:Hp.Wf S B L ch) (ha:a ∈ S.taken):(keyL S a).length=13:=by
 have:=h.part ha
 have:=Hp.fz_length (Hp.ow S.words) S.sizes a
 simp [keyL]
 omega
theorem keyL_bd {ch:Nat->List Nat} (h:Hp.Wf S B L ch) (ha:a ∈ S.taken):∀ x ∈ keyL S a,-9223372036854775808<=x/\x<=9223372036854775807:=fun x hx=>by
 unfold keyL at hx
 rcases List.mem_cons.1 hx with rfl | hx
 . have:=h.tag_le ha;omega
 rcases List.mem_append.1 hx with hx | hx
 . have:=h.fld_le ha x hx;omega
 rw [List.eq_of_mem_replicate hx];omega
theorem keyL_inj {ch:Nat->List Nat} (h:Hp.Wf S B L ch) (ha:a ∈ S.taken) (hb:b ∈ S.taken) (e:keyL S a=keyL S b):a=b:=by
 unfold keyL at e
 injection e with e1 e2
 have hl:(Hp.fz (Hp.ow S.words) S.sizes a).length=(Hp.fz (Hp.ow S.words) S.sizes b).length:=by rw [Hp.fz_length,Hp.fz_length,e1]
 exact h.cells.one a ha b hb e1 (List.append_inj e2 hl).1
namespace Hp
def gapsOf (L:List Tl):List Int:=(freeOf L).map fun t=>(t.a:Int)
theorem gapsOf_app (P Q:List Tl):gapsOf (P ++ Q)=gapsOf P ++ gapsOf Q:=by simp [gapsOf,freeOf]
theorem okTag_or (h:okTag z t=true):(within 1 z.length t || isEnd t)=true:=h
theorem lay_len:∀ {s n:Nat} {L:List Tl},Lay s L n->s+3 * L.length<=n
 | _,_,[],h=>by have:_=_:=h;simp;omega
 | s,n,t :: r,h=>by
  have:=lay_len h.2.2;have:=h.2.1;simp only [List.length_cons];omega
theorem adsOf_lt {s:Nat} (h:Lay s L n):∀ y ∈ adsOf L,y < n:=fun y hy=>by
 obtain ⟨t,ht,_,rfl⟩:=mem_adsOf.1 hy
 have:=h.mem ht
 omega
theorem Wf.walk_from {ch:Nat->List Nat} (h:Wf S B L ch):∀ (P D:List Tl) (m a:Nat),L=D ++ P->Lay 17 D a->Lay a P S.words.length->P.length < m ->
    S.walkFrom m a (adsOf D) (gapsOf D)=some (some (adsOf L,gapsOf L))
  | _,_,0,_,_,_,_,hm=>by omega
  | [],D,m+1,a,hL,hD,hP,hm=>by
   have e:a=S.words.length:=hP;unfold Hs.walkFrom;rw [if_pos (by omega),hL,List.append_nil]
  | t :: P,D,m+1,a,hL,hD,hP,hm=>by
   obtain ⟨e,hk,hP⟩:=hP;have ht:t ∈ L:=by rw [hL];simp
   have hle:=h.parts.lay.mem ht;have hok:=h.parts.ok t ht;have ih:=fun hDt=>Wf.walk_from h P (D ++ [t]) m (a+t.k) (by rw [hL];simp) hDt hP (by simpa using hm)
   have hDt:Lay 17 (D ++ [t]) (a+t.k):=Lay.app.2 ⟨a,hD,e,hk,rfl⟩;have ih:=ih hDt;unfold Hs.walkFrom;rw [if_neg (by omega),rd_ow (by omega)];simp only [Option.bind_eq_bind,Option.bind_some]
   cases hf:t.fr with
   | true=>
    obtain ⟨h1,h2,h3⟩:=hok.free hf;rw [e] at h1 h2;rw [if_pos h1,if_neg (by omega),rd_ow (by omega)];simp only [Option.bind_some];rw [h2,if_pos (by omega),Int.toNat_natCast];have e1:adsOf (D ++ [t])=adsOf D:=by simp [adsOf,hf]
    have e2:gapsOf (D ++ [t])=gapsOf D ++ [(a:Int)]:=by rw [gapsOf_app];simp [gapsOf,freeOf,hf,e]
    rw [e1,e2] at ih;exact ih
   | false=>
    obtain ⟨h1,h2⟩:=hok.cell hf;rw [e] at h1 h2;have hw:=wz_ok h.fr.toFr h1;have hg:=okTag_le h.fr.toFr h1;rw [if_neg (by omega),if_pos (okTag_or h1),hw.1];simp only [Option.bind_some];rw [<- h2,if_pos (by omega)];have e1:adsOf (D ++ [t])=Hs.insert a (adsOf D):=by
     rw [insert_last (fun y hy=>adsOf_lt hD y hy),adsOf_app];simp [adsOf,hf,e]
    have e2:gapsOf (D ++ [t])=gapsOf D:=by simp [gapsOf,freeOf,hf]
    rw [e1,e2] at ih;exact ih
theorem Wf.walk {ch:Nat->List Nat} (h:Wf S B L ch):S.walkFrom S.fuel 17 [] []=some (some (S.taken,gapsOf L)):=by
 rw [h.taken]
 have:=lay_len h.parts.lay
 exact h.walk_from L [] S.fuel 17 rfl rfl h.parts.lay (by unfold Hs.fuel;omega)
theorem gapsOf_len {s:Nat} (h:Lay s L n):(gapsOf L).length<=n:=by
 have:=lay_len h
 have:(gapsOf L).length<=L.length:=by
  unfold gapsOf freeOf;rw [List.length_map];exact List.length_filter_le _ _
 omega
theorem Wf.gaps {ch:Nat->List Nat} (h:Wf S B L ch):∀ x ∈ gapsOf L,Gap S.words x:=fun x hx=>by
 obtain ⟨t,ht,rfl⟩:=List.mem_map.1 hx
 obtain ⟨h1,h2,h3,h4,h5,h6⟩:=h.parts.frees.part t ht
 exact ⟨t.a,t.k,rfl,by rw [rd_ow (by omega),h5],h2,h3⟩
theorem linked_from {W:List Int}:∀ (F:List Tl) (l:Nat),l < W.length->(∀ i t,F[i]? = some t->ow W (bef l F i)=(t.a:Int))->ow W (bef l F F.length)=0 ->
    (∀ t ∈ F,17<=t.a/\3<=t.k/\t.a+t.k<=W.length/\ow W t.a=0/\ow W (t.a+1)=t.k /\ ∀ j,t.a+3<=j->j < t.a+t.k->ow W j=0) ->
    (∀ i t u,F[i]? = some t->F[i+1]? = some u->t.a+t.k < u.a)->Hp.linkedB W (F.map fun t=>(t.a:Int)) l=true
  | [],l,hl,_,h0,_,_=>by
   have h0:ow W l=0:=h0;simp [Hp.linkedB,rd_ow hl,h0]
  | t :: r,l,hl,h1,h0,hp,hf=>by
   obtain ⟨p1,p2,p3,p4,p5,p6⟩:=hp t (by simp);have e0:ow W l=(t.a:Int):=h1 0 t rfl;have ih:=linked_from r (t.a+2) (by omega) (fun i u hu=>h1 (i+1) u hu) h0 (fun u hu=>hp u (by simp [hu])) (fun i u v hu hv=>hf (i+1) u v hu hv);have er:(Hp.rest W t.a t.k).all (fun x=>x == 0)=true:=by
    rw [List.all_eq_true];intro x hx;unfold Hp.rest at hx;obtain ⟨j,hj,rfl⟩:=List.getElem_of_mem hx;have hj':j < t.k-3/\t.a+3+j < W.length:=by
     simp only [List.length_take,List.length_drop] at hj;omega
    have:=p6 (t.a+3+j) (by omega) (by omega);simp only [ow,List.getD,List.getElem?_eq_getElem hj'.2,Option.getD_some] at this
    simpa using this
   simp only [List.map_cons,Hp.linkedB,Int.toNat_natCast,rd_ow hl,e0,rd_ow (show t.a+1 < W.length by omega),p5,Option.getD_some,er,ih,Bool.and_true,Bool.true_and,beq_self_eq_true]
   cases r with
   | nil=>rfl
   | cons u r=>
    have:=hf 0 t u rfl rfl;simp only [List.map_cons];have hne:(u.a:Int) ≠ ((t.a+t.k:Nat):Int):=by omega
    simpa using hne
theorem Wf.linked {ch:Nat->List Nat} (h:Wf S B L ch):Hp.linkedB S.words (gapsOf L) 16=true:=by
 have hf:=h.parts.frees
 exact linked_from (freeOf L) 16 (by have:=h.lo;omega) hf.link hf.last hf.part hf.far
theorem Wf.chainsOk {ch:Nat->List Nat} (h:Wf S B L ch):ChainsOk S:=fun a ha=>
 ⟨_,_,_,_,h.tag_ ha,h.fields_ ha,h.chain_ ha,rd_ow (by have:=h.part ha;omega)⟩
theorem Wf.link_from {ch:Nat->List Nat} (h:Wf S B L ch):∀ (r:List Nat) (x:Int) (m:Nat) (seen:List Nat),PathV (ow S.words) x r->r.length < m->r.Nodup->(∀ a ∈ r,a ∉ seen/\a ∈ S.taken/\cz (ow S.words a) (fz (ow S.words) S.sizes a)=c) ->
    ∃ s,S.linkFrom c m x seen=some (some s)/\s.length=seen.length+r.length /\ ∀ a,a ∈ s ↔ a ∈ seen \/ a ∈ r
  | _,_,0,_,_,hm,_,_=>by omega
  | [],x,m+1,seen,hx,_,_,_=>by
   have e:x=0:=hx;subst e;exact ⟨seen,by simp [Hs.linkFrom],by simp,by simp⟩
  | a :: r,x,m+1,seen,hx,hm,hn,hr=>by
   obtain ⟨e,h0,hx⟩:=hx;subst e;obtain ⟨q1,q2,q3⟩:=hr a (by simp);obtain ⟨n1,n2⟩:=List.nodup_cons.1 hn;have hl:=h.part q2;obtain ⟨s,i1,i2,i3⟩:=Wf.link_from h r (ow S.words (a+3)) m (Hs.insert a seen) hx (by simpa using hm) n2 fun b hb=>by
    obtain ⟨k1,k2,k3⟩:=hr b (by simp [hb]);refine ⟨fun hq=>?_,k2,k3⟩
    rcases (mem_ins a b seen).1 hq with e | hq
    . subst e;exact n1 hb
    exact k1 hq
   refine ⟨s, ?_, ?_, ?_⟩
   . unfold Hs.linkFrom;rw [if_neg (by omega)];have g1:({ S with taken:=seen }:Hs).has (a:Int)=false:=by simp [Hs.has,q1]
     have g2:S.has (a:Int)=true:=by simp [Hs.has,q2]
     rw [g1,g2];simp only [Bool.not_true,Bool.or_false,Bool.false_eq_true,if_false,Int.toNat_natCast,chainOf_some (h.tag_ q2) (h.fields_ q2) (h.chain_ q2),Option.bind_eq_bind,Option.bind_some];rw [if_neg (by omega),rd_ow (by omega)];exact i1
   . rw [i2,insert_length q1];simp only [List.length_cons];omega
   intro b;rw [i3,mem_ins];simp only [List.mem_cons];exact ⟨fun h=>h.elim (fun h=>h.elim (fun h=>.inr (.inl h)) .inl) (fun h=>.inr (.inr h)),fun h=>h.elim (fun h=>.inl (.inr h)) (fun h=>h.elim (fun h=>.inl (.inl h)) .inr)⟩
theorem Wf.heads_from {ch:Nat->List Nat} (h:Wf S B L ch):∀ (n c:Nat) (seen:List Nat),c+n=16->seen.length=(allCh ch c).length->(∀ a,a ∈ seen ↔ a ∈ allCh ch c) ->
    ∃ s,S.headsFrom n c seen=some (some s)/\s.length=(allCh ch 16).length
  | 0,c,seen,hc,hl,_=>by
   have e:c=16:=by omega
   subst e;exact ⟨seen,rfl,hl⟩
  | n+1,c,seen,hc,hl,hm=>by
   have hlo:=h.lo;have hp:=(h.chains.path c (by omega)).v;have hnd:=allCh_nodup h.chains (k:=c+1) (by omega);unfold allCh at hnd;obtain ⟨d1,d2,d3⟩:=List.nodup_append.1 hnd;have hsub:∀ a ∈ ch c,a ∈ S.taken:=fun a ha=>((h.chains.mem c (by omega) a).1 ha).1
   have hln:=nodup_len d2 hsub;obtain ⟨s,i1,i2,i3⟩:=h.link_from (c:=c) (ch c) (ow S.words c) (S.taken.length+1) seen hp (by omega) d2 fun a ha=>
    ⟨fun hs=>d3 a ((hm a).1 hs) a ha rfl,hsub a ha,((h.chains.mem c (by omega) a).1 ha).2⟩
   obtain ⟨s',j1,j2⟩:=Wf.heads_from h n (c+1) s (by omega) (by rw [i2,hl];simp [allCh]) (fun a=>by rw [i3,hm];simp [allCh]);refine ⟨s', ?_,j2⟩;unfold Hs.headsFrom;rw [rd_ow (by omega)];simp only [Option.bind_eq_bind,Option.bind_some,i1];exact j1
theorem Wf.nodup {ch:Nat->List Nat} (h:Wf S B L ch):S.taken.Nodup:=h.up.imp fun h=>by omega
theorem Wf.chained {ch:Nat->List Nat} (h:Wf S B L ch):S.chainedB=some true:=by
 obtain ⟨s,h1,h2⟩:=h.heads_from 16 0 [] rfl rfl (by simp [allCh])
 unfold Hs.chainedB
 rw [h1]
 simp only [Option.bind_eq_bind,Option.bind_some]
 rw [h2,allCh_all h.chains h.nodup]
 simp
end Hp
namespace Hp
def prodM (l:List Int):Int:=l.foldl (fun n s=>min 3000 (n * s)) 1
theorem prodM_snoc (l:List Int) (x:Int):prodM (l ++ [x])=min 3000 (prodM l * x):=by simp [prodM,List.foldl_append]
theorem prod_min:∀ (l:List Int) (a:Int),(∀ s ∈ l,1<=s/\s<=12)->1<=a->l.foldl (fun n s=>min 3000 (n * s)) (min 3000 a)=min 3000 (l.foldl (· * ·) a)/\1<=l.foldl (· * ·) a
 | [],a,_,ha=>⟨rfl,ha⟩
 | x :: l,a,h,ha=>by
  obtain ⟨h1,h2⟩:=h x (by simp);have hx:1<=a * x:=by
   have:=Int.mul_le_mul ha h1 (by omega) (by omega);omega
  obtain ⟨i1,i2⟩:=prod_min l (a * x) (fun s hs=>h s (by simp [hs])) hx;refine ⟨?_,i2⟩;simp only [List.foldl_cons];rw [show min 3000 (min 3000 a * x)=min 3000 (a * x) from ?_]
  . exact i1
  by_cases hc:a<=3000
  . rw [Int.min_eq_right hc]
  rw [Int.min_eq_left (show (3000:Int)<=a by omega)];have e1:(3000:Int)<=3000 * x:=by omega
  have e2:(3000:Int)<=a * x:=by
   have:=Int.mul_le_mul (show (3000:Int)<=a by omega) h1 (by omega) (by omega);omega
  rw [Int.min_eq_left e1,Int.min_eq_left e2]
theorem prodM_is (h:∀ s ∈ l,1<=s/\s<=12):prodM l=min 3000 (l.foldl (· * ·) 1)/\1<=l.foldl (· * ·) 1:=by
 have:=prod_min l 1 h (by omega)
 exact this
theorem prodM_big (h:∀ s ∈ l,1<=s/\s<=12):prodM l > 2000 ↔ l.foldl (· * ·) 1 > 2000:=by
 rw [(prodM_is h).1]
 omega
def OrdTo (n:Nat) (o:List Int) (i:Nat):Prop:=∀ k x,k < i->rd o k=some x->(0<=x/\x<=(n:Int)-1) /\ ∀ m y,m < k->rd o m=some y->y ≠ x
def OrdOk (n:Nat) (o:List Int):Prop:=o.length=n/\OrdTo n o n
theorem OrdOk.nodup (h:OrdOk n o):o.Nodup:=by
 rw [List.nodup_iff_pairwise_ne,List.pairwise_iff_getElem]
 intro i j hi hj hij e
 have:=(h.2 j o[j] (by have:=h.1;omega) (by unfold rd;rw [List.getElem?_eq_getElem])).2 i o[i] hij (by unfold rd;rw [List.getElem?_eq_getElem])
 exact this e
theorem OrdOk.rng (h:OrdOk n o):∀ x ∈ o,0<=x/\x < n:=fun x hx=>by
 obtain ⟨i,hi,rfl⟩:=List.getElem_of_mem hx
 have:=(h.2 i o[i] (by have:=h.1;omega) (by unfold rd;rw [List.getElem?_eq_getElem])).1
 omega
theorem mem_upto:x ∈ upto n ↔ 0<=x/\x < n:=by
 unfold upto
 rw [List.mem_map]
 constructor
 . rintro ⟨k,hk,rfl⟩;have:=List.mem_range.1 hk;omega
 intro h
 exact ⟨x.toNat,List.mem_range.2 (by omega),by omega⟩
theorem nodup_lenI:∀ {l m:List Int},l.Nodup->(∀ a ∈ l,a ∈ m)->l.length<=m.length
 | [],_,_,_=>Nat.zero_le _
 | a :: r,m,hp,hm=>by
  have ha:a ∈ m:=hm a (by simp);obtain ⟨h1,h2⟩:=List.nodup_cons.1 hp;have:=nodup_lenI (l:=r) (m:=m.erase a) h2 (fun b hb=>(List.mem_erase_of_ne (by rintro rfl;exact h1 hb)).2 (hm b (by simp [hb])));rw [List.length_erase_of_mem ha] at this;have:=List.length_pos_of_mem ha;simp only [List.length_cons];omega
theorem upto_up (n:Nat):(upto n).Pairwise (· < ·):=by
 unfold upto
 rw [List.pairwise_map]
 exact List.pairwise_lt_range.imp fun h=>by omega
theorem full_perm (hl:o.length=n) (hn:o.Nodup) (hr:∀ x ∈ o,0<=x/\x < n):o.Perm (upto n):=by
 have hsub:∀ x ∈ upto n,x ∈ o:=fun x hx=>by
  apply Classical.byContradiction;intro hne;have:=nodup_lenI (l:=x :: o) (m:=upto n) (List.nodup_cons.2 ⟨hne,hn⟩) (fun a ha=>by
   rcases List.mem_cons.1 ha with rfl | ha
   . exact hx
   . exact mem_upto.2 (hr a ha))
  rw [upto_length] at this;simp only [List.length_cons] at this;omega
 refine (List.perm_ext_iff_of_nodup hn ((upto_up n).imp fun h=>by omega)).2 fun a=>⟨fun ha=>mem_upto.2 (hr a ha),hsub a⟩
theorem ordOk_iff:OrdOk n o ↔ sortI o=upto n:=by
 constructor
 . intro h;refine List.Perm.eq_of_pairwise (le:=fun a b:Int=>a<=b) (fun a b _ _ h1 h2=>by omega) (sorted_sortI o) ((upto_up n).imp fun h=>by omega) ((perm_sortI o).trans (full_perm h.1 h.nodup h.rng))
 intro h
 have hp:o.Perm (upto n):=h ▸ (perm_sortI o).symm
 have hl:o.length=n:=by rw [hp.length_eq,upto_length]
 have hn:o.Nodup:=hp.nodup_iff.2 ((upto_up n).imp fun h=>by omega)
 refine ⟨hl,fun k x hk hx=>⟨?_,fun m y hm hy e=>?_⟩⟩
 . have:=mem_upto.1 (hp.mem_iff.1 (List.mem_of_getElem? hx));omega
 obtain ⟨l1,e1⟩:=List.getElem?_eq_some_iff.1 hx
 obtain ⟨l2,e2⟩:=List.getElem?_eq_some_iff.1 hy
 rw [List.nodup_iff_pairwise_ne,List.pairwise_iff_getElem] at hn
 exact hn m k l2 l1 hm (by rw [e1,e2];exact e)
theorem frameErr_ok (h:frameErr z o=0):FrOk z o/\z.foldl (· * ·) 1<=2000:=by
 unfold frameErr at h
 split at h
 . cases h
 split at h
 . cases h
 split at h
 . cases h
 split at h
 . rename_i h1 h2 h3 h4;have ho:=ordOk_iff.2 h4;have hp:o.Perm (upto z.length):=h4 ▸ (perm_sortI o).symm;refine ⟨{ few:=by omega,pos:=fun s hs=>?_,len:=ho.1,perm:=fun i hi=>hp.mem_iff.2 (mem_upto.2 (by omega)),rng:=ho.rng,nodup:=ho.nodup },by omega⟩;have h2':z.all (fun n=>decide (1<=n) && decide (n<=12))=true:=by simpa using h2
   have:=List.all_eq_true.1 h2' s hs
   simpa using this
 cases h
end Hp
open Go.RowKit Go.Maps
structure Rd where
 rb:Nat
 sp:Option Addr
 sc:Nat
 op:Option Addr
 oc:Nat
 gb:Nat
 go:Nat
 wc:Nat
structure RAt (w:World) (r:Rd) (S:Hp.Hs):Prop where
 c0:w.cell? ⟨r.rb,0,none⟩=some (.slice r.sp S.sizes.length r.sc)
 c1:w.cell? ⟨r.rb,1,none⟩=some (.slice r.op S.order.length r.oc)
 c2:w.cell? ⟨r.rb,2,none⟩=some (.slice (some ⟨r.gb,r.go,none⟩) S.words.length r.wc)
 sizes:SliceAt w r.sp r.sc S.sizes
 order:SliceAt w r.op r.oc S.order
 words:SliceAt w (some ⟨r.gb,r.go,none⟩) r.wc S.words
namespace RAt
variable {w w':World} {r:Rd} {S:Hp.Hs}
theorem ext (h:RAt w r S) (k:Ext w w'):RAt w' r S:=
 ⟨(k.cell (cell_lt h.c0) 0).trans h.c0,(k.cell (cell_lt h.c0) 1).trans h.c1,(k.cell (cell_lt h.c0) 2).trans h.c2,h.sizes.ext k,h.order.ext k,h.words.ext k⟩
theorem get (h:RAt w r S) (hj:j < S.words.length):w.cell? ⟨r.gb,r.go+j,none⟩=some (.int .i64 (Hp.ow S.words j)):=by
 obtain ⟨b,o,e,_,hc⟩:=h.words.cells (by omega)
 cases e
 exact hc j _ (Hp.rd_ow hj)
theorem lt (h:RAt w r S):r.rb < w.heap.size:=cell_lt h.c0
end RAt
set_option maxHeartbeats 2000000 in
theorem rFields {r:Rd} (h:RAt w r S) (hz:Hp.Fr S.sizes) (ht:Hp.okTag S.sizes t=true) :
    Calls Tryz.prog 68 #[.pointer (some ⟨r.rb,0,none⟩),.int .i64 t] w fun e w'=>e = .returned (.int .i64 ((Hp.wz S.sizes t-4:Nat):Int))/\Ext w w':=by
  have h0:=h.c0;have few:=hz.few;have hle:=h.sizes.le;have hcap:=h.sizes.cap;have hwz:=Hp.wz_ok hz ht
  cases he:Hp.isEnd t with
  | true=>
   have e:Hp.wz S.sizes t=5:=by simp [Hp.wz,he]
   rw [e];simp only [Hp.isEnd,Hp.within,Bool.and_eq_true,decide_eq_true_eq] at he;obtain ⟨e1,e2⟩:=he;clear h hz ht hwz e;generalize S.sizes.length=n at *;have t1:decide (t<=(n:Int))=false:=dF;have t2:decide (t ≥ 1)=true:=dT;have t3:decide (t ≥ 20)=true:=dT;have t4:decide (t<=24)=true:=dT;go_enter Tryz.func68,Tryz.ntmps68
   go_wp2_with fail
   go_returns;exact ⟨rfl,exx⟩
  | false=>
   have hn:=Hp.isNode_of ht he;simp only [Hp.isNode,Hp.within,Bool.and_eq_true,decide_eq_true_eq] at hn;obtain ⟨e1,e2⟩:=hn;obtain ⟨i,rfl⟩:∃ i:Nat,t=(i:Int)+1:=⟨(t-1).toNat,by omega⟩
   have hi:i < S.sizes.length:=by omega
   obtain ⟨x,hx⟩:=rd_get (l:=S.sizes) (j:=i) hi;have hxp:=hz.pos x (List.mem_of_getElem? hx);have e:((Hp.wz S.sizes ((i:Int)+1)-4:Nat):Int)=x:=by
    unfold Hp.wz;rw [he];have:S.sizes.getD ((i:Int)+1-1).toNat 0=x:=by
     rw [show ((i:Int)+1-1).toNat=i by omega,List.getD_eq_getElem?_getD];unfold Hp.rd at hx;rw [hx];rfl
    rw [this];simp only [Bool.false_eq_true,if_false];omega
   rw [e];obtain ⟨b,o,hp,hb,hc⟩:=h.sizes.cells (by omega);have gx:=hc i x hx;rw [hp] at h0;clear h hz ht hwz e hc hx he hp;generalize S.sizes.length=n at *;have t1:decide ((i:Int)+1<=(n:Int))=true:=dT;have t2:decide ((i:Int)+1 ≥ 1)=true:=dT;go_enter Tryz.func68,Tryz.ntmps68
   go_wp2_with fail
   go_returns;exact ⟨rfl,exx⟩
theorem rIsNode {r:Rd} (h:RAt w r S) (ha:a < S.words.length) :
    Calls Tryz.prog 87 #[.pointer (some ⟨r.rb,0,none⟩),.int .i64 a] w fun e w'=>e = .returned (.bool (decide (Hp.ow S.words a < 20)))/\Ext w w':=by
  have c2:=h.c2;have gx:=h.get ha;have hle:=h.words.le;have hcap:=h.words.cap;clear h;generalize S.words.length=n at *;generalize Hp.ow S.words a=x at *;go_enter Tryz.func87,Tryz.ntmps87
  go_wp2_with fail
  go_returns;exact ⟨rfl,exx⟩
set_option maxHeartbeats 2000000 in
theorem rLong_cell {r:Rd} (h:RAt w r S) (hz:Hp.Fr S.sizes) (ha:a < S.words.length) (ht:Hp.okTag S.sizes (Hp.ow S.words a)=true) :
    Calls Tryz.prog 67 #[.pointer (some ⟨r.rb,0,none⟩),.int .i64 a] w fun e w'=>e = .returned (.int .i64 ((Hp.wz S.sizes (Hp.ow S.words a):Nat):Int))/\Ext w w':=by
  have c2:=h.c2;have gx:=h.get ha;have hle:=h.words.le;have hcap:=h.words.cap;have hwz:=Hp.wz_ok hz ht;have hto:=Hp.okTag_le hz ht;have HC:=hZ (fun W (hW:Ext w W)=>rFields (h.ext hW) hz ht);clear h hz ht;generalize S.words.length=n at *;generalize Hp.ow S.words a=x at *;obtain ⟨k,hk⟩:∃ k,Hp.wz S.sizes x=k+4:=⟨Hp.wz S.sizes x-4,by omega⟩
  have e4:((Hp.wz S.sizes x-4:Nat):Int)=k:=by omega
  have HC2:=hZ (fun W (hW:Ext w W)=>e4 ▸ HC.out W hW);rw [hk];have hk16:k<=12:=by omega
  have t0:(x == 0)=false:=by simp;omega
  clear hwz hk e4 HC hto;go_enter Tryz.func67,Tryz.ntmps67
  go_wp2_with (go_at_call 68;refine (HC2.out _ (exx)).mono ?_;rintro e w1 ⟨rfl,hb1⟩;obtain ⟨hc1,hf1,hs1⟩:=hb1.cells)
  go_returns;exact ⟨by rw [show ((k+4:Nat):Int)=4+(k:Int) by push_cast;omega];rfl,exx⟩
theorem rLong_free {r:Rd} (h:RAt w r S) (ha:a+1 < S.words.length) (h0:Hp.ow S.words a=0) (h1:Hp.ow S.words (a+1)=k) :
    Calls Tryz.prog 67 #[.pointer (some ⟨r.rb,0,none⟩),.int .i64 a] w fun e w'=>e = .returned (.int .i64 (k:Int))/\Ext w w':=by
  have c2:=h.c2;have gx:=h.get (j:=a) (by omega);have gy:=h.get ha;rw [h0] at gx;rw [h1] at gy;have hle:=h.words.le;have hcap:=h.words.cap;clear h h0 h1;generalize S.words.length=n at *;go_enter Tryz.func67,Tryz.ntmps67
  go_wp2_with fail
  go_returns;exact ⟨rfl,exx⟩
open Go.RowKit Go.Maps
def pick (b:Bool) (L:List Hp.Tl):List Int:=(L.filter fun t=>t.fr == b).map fun t=>(t.a:Int)
theorem pick_snoc (b:Bool) (P:List Hp.Tl) (t:Hp.Tl):pick b (P ++ [t])=pick b P ++ (if t.fr == b then [(t.a:Int)] else []):=by
 unfold pick
 rw [List.filter_append,List.map_append]
 congr 1
 cases h:t.fr == b <;> simp [h]
theorem pick_len (b:Bool) (L:List Hp.Tl):(pick b L).length<=L.length:=by
 unfold pick
 rw [List.length_map]
 exact List.length_filter_le _ _
theorem pick_cells (L:List Hp.Tl):pick false L=(Hp.adsOf L).map fun a:Nat=>(a:Int):=by
 unfold pick Hp.adsOf
 rw [List.map_map]
 congr 1
 apply List.filter_congr
 intro t _
 cases t.fr <;> rfl
def ListPost (w:World) (l:List Int) (e:Ending) (w':World):Prop:=∃ p c,e = .returned (.slice p l.length c)/\Row w' w.heap.size p c l/\Ext w w'
set_option maxRecDepth 100000 in
set_option maxHeartbeats 4000000 in
theorem rWhich {r:Rd} (h:RAt w r S) (hz:Hp.Fr S.sizes) (hi:S.words.length<=100000) (hL:Hp.Parts (Hp.ow S.words) S.sizes L S.words.length) (b:Bool) :
    Calls Tryz.prog 139 #[.pointer (some ⟨r.rb,0,none⟩),.bool b] w (ListPost w (pick b L)):=by
  obtain ⟨n,hn⟩:∃ n,S.words.length=n:=⟨_,rfl⟩
  have EN:=hZ hn;have H:=hZ h;have HL:=hZ hL;have hLn:=Hp.lay_len_ hL.lay;rw [hn] at hi hLn;clear h hL hn;go_enter Tryz.func139,Tryz.ntmps139
  go_wp2_with fail
  go_loopg [5,6] L.length (fun g o i wr=>∃ (P Q:List Hp.Tl) (s:Nat) (p:Option Addr) (c:Nat),Q.length<=g/\i = .int .i64 s/\s<=n/\o = .slice p (pick b P).length c/\Hid (L=P ++ Q)/\Hid (Hp.Lay s Q n)/\Hid (Row wr w.heap.size p c (pick b P))/\Hid (Ext w wr))
  case atStart=>exact ⟨[],L,17,none,0,Nat.le_refl _,rfl,by omega,rfl,hZ rfl,hZ (by rw [<- EN.out];exact HL.out.lay),hZ (Row.nil _ _),hZ (Ext.refl w)⟩
  case round=>
   obtain ⟨P,Q,s,p,c,hg,rfl,hs,rfl,EL,LQ,R,E⟩:=hrel;have N:=hZ (H.out.ext E.out);have c2:=N.out.c2;have hle:=N.out.words.le;have hcap:=N.out.words.cap;rw [EN.out] at c2 hle
   cases Q with
   | nil=>
    have:s=n:=LQ.out;subst this;have tk:decide ((s:Int) < (s:Int))=false:=dF;have hP:P=L:=by rw [EL.out,List.append_nil]
    subst hP
    go_wp2_with fail
    go_returns;exact ⟨p,c,rfl,R.out,E.out⟩
   | cons t Q=>
    have htL:t ∈ L:=by rw [EL.out];simp
    have hok:=HL.out.ok t htL;obtain ⟨q1,q2,q3⟩:=LQ.out;have q4:=q3.le;subst q1;have hta:t.a+t.k<=S.words.length:=(HL.out.lay.mem htL).2.1;have gx:=N.out.get (j:=t.a) (by omega);have tk:decide ((t.a:Int) < (n:Int))=true:=dT;have EL2:Hid (L=(P ++ [t]) ++ Q):=hZ (by rw [EL.out];simp);have LQ2:=hZ q3;have HTA:=hZ hta;have plen:=pick_len b P;have hPL:P.length<=L.length:=by rw [EL.out];simp
    have hnext:IntKind.i64.wrap ((t.a:Int)+(t.k:Int))=((t.a+t.k:Nat):Int):=by rw [Int.natCast_add];exact IntWalk.i64_in _ (by omega)
    have HNX:=hZ hnext;simp only [List.length_cons] at hg
    cases hf:t.fr with
    | true=>
     have hfr:=hok.free hf;have LONG:=hZ (fun W (hW:Ext w W)=>rLong_free (H.out.ext hW) (a:=t.a) (by omega) hfr.1 hfr.2.1);rw [hfr.1] at gx
     cases b with
     | true=>
      have EP:pick true (P ++ [t])=pick true P ++ [(t.a:Int)]:=by rw [pick_snoc,hf];rfl
      have RA:=hZ (R.out.ext (Ext.alloc (Ext.refl _) (.cells #[.int .i64 t.a] 3)));clear hfr hok hta q3 LQ EL hnext hf htL
      go_wp2_with (first
       | (go_at_call 67;refine (LONG.out _ E8).mono ?_;rintro e w1 ⟨rfl,hb1⟩;obtain ⟨hc1,hf1,hs1⟩:=hb1.cells)
       | (at_builtin;refine wpList_append_int rfl _ _ rfl (y:=(t.a:Int)) rfl rfl RA.out (by go_simp) (by omega) (by omega) (by omega) (by have:=E.out.le;simp;omega) ?_;intro g8 c8 x8 hR8 hG8;obtain ⟨row,hgr,hrow⟩:=id hG8;have E8:Ext w x8:=ext_grow (E.out.alloc _) hgr hrow;have N8:=hZ (H.out.ext E8);have c28:=N8.out.c2;have R8H:=hZ hR8))
      go_roundg Q.length
      case measure=>omega
      case rel=>exact ⟨P ++ [t],Q,t.a+t.k,some ⟨g8,0,none⟩,c8,Nat.le_refl _,by go_num,by omega,by rw [EP];simp,EL2,LQ2,hZ (by rw [EP];exact R8H.out.ext hb1),hZ (E8.trans hb1)⟩
     | false=>
      have EP:pick false (P ++ [t])=pick false P:=by rw [pick_snoc,hf];simp
      clear hfr hok hta q3 LQ EL hnext hf htL
      go_wp2_with (go_at_call 67;refine (LONG.out _ E.out).mono ?_;rintro e w1 ⟨rfl,hb1⟩;obtain ⟨hc1,hf1,hs1⟩:=hb1.cells)
      go_roundg Q.length
      case measure=>omega
      case rel=>exact ⟨P ++ [t],Q,t.a+t.k,p,c,Nat.le_refl _,by go_num,by omega,by rw [EP],EL2,LQ2,hZ (by rw [EP];exact R.out.ext hb1),hZ (E.out.trans hb1)⟩
    | false=>
     have hcl:=hok.cell hf;have hto:=Hp.okTag_le hz hcl.1;have LONG:=hZ (fun W (hW:Ext w W)=>hcl.2 ▸ rLong_cell (H.out.ext hW) hz (a:=t.a) (by omega) hcl.1);have t0:(Hp.ow S.words t.a == 0)=false:=by simp;omega
     cases b with
     | false=>
      have EP:pick false (P ++ [t])=pick false P ++ [(t.a:Int)]:=by rw [pick_snoc,hf];rfl
      have RA:=hZ (R.out.ext (Ext.alloc (Ext.refl _) (.cells #[.int .i64 t.a] 3)));clear hcl hto hok hta q3 LQ EL hnext hf htL;generalize Hp.ow S.words t.a=x at *
      go_wp2_with (first
       | (go_at_call 67;refine (LONG.out _ E8).mono ?_;rintro e w1 ⟨rfl,hb1⟩;obtain ⟨hc1,hf1,hs1⟩:=hb1.cells)
       | (at_builtin;refine wpList_append_int rfl _ _ rfl (y:=(t.a:Int)) rfl rfl RA.out (by go_simp) (by omega) (by omega) (by omega) (by have:=E.out.le;simp;omega) ?_;intro g8 c8 x8 hR8 hG8;obtain ⟨row,hgr,hrow⟩:=id hG8;have E8:Ext w x8:=ext_grow (E.out.alloc _) hgr hrow;have N8:=hZ (H.out.ext E8);have c28:=N8.out.c2;have R8H:=hZ hR8))
      go_roundg Q.length
      case measure=>omega
      case rel=>exact ⟨P ++ [t],Q,t.a+t.k,some ⟨g8,0,none⟩,c8,Nat.le_refl _,by go_num,by omega,by rw [EP];simp,EL2,LQ2,hZ (by rw [EP];exact R8H.out.ext hb1),hZ (E8.trans hb1)⟩
     | true=>
      have EP:pick true (P ++ [t])=pick true P:=by rw [pick_snoc,hf];simp
      clear hcl hto hok hta q3 LQ EL hnext hf htL;generalize Hp.ow S.words t.a=x at *
      go_wp2_with (go_at_call 67;refine (LONG.out _ E.out).mono ?_;rintro e w1 ⟨rfl,hb1⟩;obtain ⟨hc1,hf1,hs1⟩:=hb1.cells)
      go_roundg Q.length
      case measure=>omega
      case rel=>exact ⟨P ++ [t],Q,t.a+t.k,p,c,Nat.le_refl _,by go_num,by omega,by rw [EP],EL2,LQ2,hZ (by rw [EP];exact R.out.ext hb1),hZ (E.out.trans hb1)⟩
theorem rCells {r:Rd} (h:RAt w r S) (hz:Hp.Fr S.sizes) (hi:S.words.length<=100000) (hL:Hp.Parts (Hp.ow S.words) S.sizes L S.words.length) :
    Calls Tryz.prog 82 #[.pointer (some ⟨r.rb,0,none⟩)] w (ListPost w (pick false L)):=by
  have HC:=hZ (rWhich h hz hi hL false);clear h hz hL;go_enter Tryz.func82,Tryz.ntmps82
  go_wp2_with (go_at_call 139;refine HC.out.mono ?_;rintro e w1 ⟨p,c,rfl,hR,hE⟩)
  go_returns;exact ⟨p,c,rfl,hR,hE⟩
theorem rFree {r:Rd} (h:RAt w r S) (hz:Hp.Fr S.sizes) (hi:S.words.length<=100000) (hL:Hp.Parts (Hp.ow S.words) S.sizes L S.words.length) :
    Calls Tryz.prog 84 #[.pointer (some ⟨r.rb,0,none⟩)] w (ListPost w (pick true L)):=by
  have HC:=hZ (rWhich h hz hi hL true);clear h hz hL;go_enter Tryz.func84,Tryz.ntmps84
  go_wp2_with (go_at_call 139;refine HC.out.mono ?_;rintro e w1 ⟨p,c,rfl,hR,hE⟩)
  go_returns;exact ⟨p,c,rfl,hR,hE⟩
theorem dIn (n a b:Int) (w:World):Calls Tryz.prog 66 #[.int .i64 n,.int .i64 a,.int .i64 b] w fun e w'=>e = .returned (.bool (Hp.within a b n))/\Ext w w':=by
 by_cases h1:a<=n
 . have t1:decide (n ≥ a)=true:=decide_eq_true h1
   by_cases h2:n<=b
   . have t2:decide (n<=b)=true:=decide_eq_true h2;have e:Hp.within a b n=true:=by simp [Hp.within,h1,h2]
     rw [e];clear e;go_enter Tryz.func66,Tryz.ntmps66
     go_wp2_with fail
     go_returns;exact ⟨rfl,exx⟩
   have t2:decide (n<=b)=false:=decide_eq_false h2;have e:Hp.within a b n=false:=by simp [Hp.within,h2]
   rw [e];clear e;go_enter Tryz.func66,Tryz.ntmps66
   go_wp2_with fail
   go_returns;exact ⟨rfl,exx⟩
 have t1:decide (n ≥ a)=false:=decide_eq_false h1
 have e:Hp.within a b n=false:=by simp [Hp.within,h1]
 rw [e]
 clear e
 go_enter Tryz.func66,Tryz.ntmps66
 go_wp2_with fail
 go_returns
 exact ⟨rfl,exx⟩
set_option maxHeartbeats 2000000 in
theorem rHas (h:SliceAt w p c l) :
    Calls Tryz.prog 85 #[.slice p l.length c,.int .i64 x] w fun e w'=>e = .returned (.bool (l.contains x))/\Ext w w':=by
  have hle:=h.le;have hcap:=h.cap;have H:=hZ h;clear h;generalize hL:l.length=n at hle ⊢;have HL:=hZ hL;clear hL;obtain ⟨b,hb⟩:∃ b,l.contains x=b:=⟨_,rfl⟩
  have HB:=hZ hb;rw [hb];clear hb;go_enter Tryz.func85,Tryz.ntmps85
  go_wp2_with fail
  go_loopg [5] n (fun g i wr=>∃ j:Nat,j<=n/\n-j<=g/\i = .int .i64 j/\Hid (Ext w wr)/\Hid (∀ i,i < j->Hp.rd l i ≠ some x))
  case atStart=>exact ⟨0,Nat.zero_le _,by omega,rfl,hZ (Ext.refl w),hZ (fun i hi=>absurd hi (Nat.not_lt_zero _))⟩
  case round=>
   obtain ⟨j,hj,hg,rfl,E,A⟩:=hrel
   by_cases hlt:j < n
   . obtain ⟨y,hy⟩:=rd_get (l:=l) (j:=j) (by rw [HL.out];exact hlt);obtain ⟨bb,o,rfl,hbb,hc⟩:=(H.out.ext E.out).cells (by rw [HL.out];omega);have g1:=hc j y hy;have HY:=hZ hy;have tk:decide ((j:Int) < (n:Int))=true:=dT;clear hc hy
     by_cases hyx:y=x
     . have t0:(y == x)=true:=by simpa using hyx
       have hbt:b=true:=by
        rw [<- HB.out];have:=List.mem_of_getElem? HY.out;rw [hyx] at this
        simpa using this
       subst hbt
       go_wp2_with fail
       go_returns;exact ⟨rfl,E.out⟩
     have t0:(y == x)=false:=by simpa using hyx
     have A2:Hid (∀ i,i < j+1->Hp.rd l i ≠ some x):=hZ (fun i hi=>by
      by_cases e:i=j
      . subst e;rw [HY.out]
        simpa using hyx
      . exact A.out i (by omega))
     go_wp2_with fail
     go_roundg (n-(j+1))
     case measure=>omega
     case rel=>exact ⟨j+1,by omega,Nat.le_refl _,by go_num,E,A2⟩
   have:j=n:=by omega
   subst this;have tk:decide ((j:Int) < (j:Int))=false:=dF;have hbf:b=false:=by
    rw [<- HB.out]
    cases hc:l.contains x with
    | false=>rfl
    | true=>
     have hm:x ∈ l:=by simpa using hc
     obtain ⟨i,hi,e⟩:=List.getElem_of_mem hm;exact absurd (by unfold Hp.rd;rw [List.getElem?_eq_getElem hi,e]) (A.out i (by rw [<- HL.out];exact hi))
   subst hbf
   go_wp2_with fail
   go_returns;exact ⟨rfl,E.out⟩
set_option maxHeartbeats 2000000 in
theorem rPlace {r:Rd} (h:RAt w r S) {c:Int} (hk:Hp.rd S.order k=some c) (hf:∀ j,j < k->Hp.rd S.order j ≠ some c) :
    Calls Tryz.prog 173 #[.pointer (some ⟨r.rb,0,none⟩),.int .i64 c] w fun e w'=>e = .returned (.int .i64 (k:Int))/\Ext w w':=by
  have hkl:=rd_lt hk;have hle:=h.order.le;have hcap:=h.order.cap;have H:=hZ h;have HK:=hZ hk;have HF:=hZ hf;clear h hk hf;generalize hL:S.order.length=n at hle hkl;have HL:=hZ hL;clear hL;go_enter Tryz.func173,Tryz.ntmps173
  go_wp2_with fail
  go_loopg [5] n (fun g i wr=>∃ j:Nat,j<=k/\n-j<=g/\i = .int .i64 j/\Hid (Ext w wr))
  case atStart=>exact ⟨0,Nat.zero_le _,by omega,rfl,hZ (Ext.refl w)⟩
  case round=>
   obtain ⟨j,hj,hg,rfl,E⟩:=hrel;have N:=hZ (H.out.ext E.out);have c1:=N.out.c1;rw [HL.out] at c1;obtain ⟨y,hy⟩:=rd_get (l:=S.order) (j:=j) (by rw [HL.out];omega);obtain ⟨bb,o,hp,hbb,hc⟩:=N.out.order.cells (by rw [HL.out];omega);have g1:=hc j y hy;rw [hp] at c1;have tk:decide ((j:Int) < (n:Int))=true:=dT;have HY:=hZ hy;clear hc hy hp
   by_cases hjk:j=k
   . subst hjk;have hyc:y=c:=by
      have:=HY.out;rw [HK.out] at this;exact (Option.some.inj this).symm
     have t0:(y == c)=true:=by simpa using hyc
     go_wp2_with fail
     go_returns;exact ⟨rfl,E.out⟩
   have hyc:y ≠ c:=by
    intro e;exact HF.out j (by omega) (by rw [HY.out,e])
   have t0:(y == c)=false:=by simpa using hyc
   clear hyc
   go_wp2_with fail
   go_roundg (n-(j+1))
   case measure=>omega
   case rel=>exact ⟨j+1,by omega,Nat.le_refl _,by go_num,E⟩
theorem index_spec {c:Int} (h:c ∈ o):∃ k:Nat,Hp.index o c=k/\Hp.rd o k=some c /\ ∀ j,j < k->Hp.rd o j ≠ some c:=by
 unfold Hp.index
 cases hf:o.findIdx? (· == c) with
 | none=>
  rw [List.findIdx?_eq_none_iff] at hf;have:=hf c h;simp at this
 | some i=>
  rw [List.findIdx?_eq_some_iff_getElem] at hf;obtain ⟨hl,h1,h2⟩:=hf;refine ⟨i,rfl, ?_,fun j hj e=>?_⟩
  . unfold Hp.rd;rw [List.getElem?_eq_getElem hl]
    simpa using h1
  have:=h2 j hj;unfold Hp.rd at e;rw [List.getElem?_eq_getElem (by omega)] at e;have e:=Option.some.inj e;simp [e] at this
theorem order_mem (hz:Hp.FrOk S.sizes S.order) (h:Hp.isNode S.sizes t=true):t-1 ∈ S.order:=by
 simp only [Hp.isNode,Hp.within,Bool.and_eq_true,decide_eq_true_eq] at h
 have:=hz.perm (t-1).toNat (by omega)
 rwa [show (((t-1).toNat:Nat):Int)=t-1 by omega] at this
theorem rank_node {z:List Int} (he:Hp.isEnd t=false):Hp.rank o t=Hp.index o (t-1):=by simp [Hp.rank,he]
set_option maxHeartbeats 2000000 in
theorem rRank {r:Rd} {ch:Nat->List Nat} (h:RAt w r S) (hw:Hp.Wf S B L ch) (ha:a ∈ S.taken) :
    Calls Tryz.prog 172 #[.pointer (some ⟨r.rb,0,none⟩),.int .i64 a] w fun e w'=>e = .returned (.int .i64 (Hp.rank S.order (Hp.ow S.words a)))/\Ext w w':=by
  have pa:=hw.part ha;have ht:=hw.cells.tags a ha;have hto:=hw.tag_le ha;have few:=hw.fr.few;have NODE:=hZ (fun W (hW:Ext w W)=>rIsNode (h.ext hW) (a:=a) (by omega))
  cases he:Hp.isEnd (Hp.ow S.words a) with
  | true=>
   have e:Hp.rank S.order (Hp.ow S.words a)=S.order.length:=by simp [Hp.rank,he]
   rw [e];simp only [Hp.isEnd,Hp.within,Bool.and_eq_true,decide_eq_true_eq] at he;have NODE2:=hZ (fun W (hW:Ext w W)=>(decide_eq_false (by omega:¬ Hp.ow S.words a < 20)) ▸ NODE.out W hW);have H:=hZ h;have hcap:=h.order.cap;have hle:=h.order.le;clear h hw ha ht he e NODE pa;go_enter Tryz.func172,Tryz.ntmps172
   go_wp2_with (go_at_call 87;refine (NODE2.out _ (exx)).mono ?_;rintro e w1 ⟨rfl,hb1⟩;obtain ⟨hc1,hf1,hs1⟩:=hb1.cells;have c1:=(H.out.ext hb1).c1)
   go_returns;exact ⟨rfl,exx⟩
  | false=>
   have hn:=Hp.isNode_of ht he;have hm:=order_mem hw.fr hn;obtain ⟨k,e1,e2,e3⟩:=index_spec hm;rw [rank_node (z:=S.sizes) he,e1];have PL:=hZ (fun W (hW:Ext w W)=>rPlace (h.ext hW) e2 e3);simp only [Hp.isNode,Hp.within,Bool.and_eq_true,decide_eq_true_eq] at hn;have NODE2:=hZ (fun W (hW:Ext w W)=>(decide_eq_true (by omega:Hp.ow S.words a < 20)) ▸ NODE.out W hW);have H:=hZ h;have gx:=h.get (j:=a) (by omega);have hlt:=h.lt;have c2:=h.c2;have hle:=h.words.le;have hcap:=h.words.cap;obtain ⟨bb,o',hp',hbb,_⟩:=h.words.cells (by omega)
   cases hp'
   have al:a < S.words.length:=by omega
   clear h hw ha ht he e1 e2 e3 NODE hm pa;generalize S.words.length=n at *;generalize Hp.ow S.words a=x at *;go_enter Tryz.func172,Tryz.ntmps172
   go_wp2_with (first
    | (go_at_call 87;refine (NODE2.out _ (exx)).mono ?_;rintro e w1 ⟨rfl,hb1⟩;obtain ⟨hc1,hf1,hs1⟩:=hb1.cells;have c2':=(hb1.cell hlt 2).trans c2;have gx':=(hb1.cell hbb (r.go+a)).trans gx)
    | (go_at_call 173;refine (PL.out _ (exx)).mono ?_;rintro e w2 ⟨rfl,hb2⟩;obtain ⟨hc2,hf2,hs2⟩:=hb2.cells))
   go_returns;exact ⟨rfl,exx⟩
set_option maxHeartbeats 2000000 in
theorem rChain (h:SliceAt w p c l) (hk:Hp.chain t l=some k) :
    Calls Tryz.prog 137 #[.int .i64 t,.slice p l.length c] w fun e w'=>e = .returned (.int .i64 k)/\Ext w w':=by
  simp only [Hp.chain,Option.bind_eq_bind,Option.bind_eq_some_iff,Option.pure_def,Option.some.injEq] at hk;obtain ⟨t',ht,n0,hn,r,hr,hk⟩:=hk;obtain ⟨rfl,ht1,ht2⟩:=ck_some ht;obtain ⟨rfl,hn1,hn2⟩:=ck_some hn;subst hk;have hle:=h.le;have hcap:=h.cap;have H:=hZ h;have HR:=hZ hr;clear h hr ht hn;generalize hL:l.length=n at hle ⊢;have HL:=hZ hL;clear hL;go_enter Tryz.func137,Tryz.ntmps137;go_wp2
  go_loop [5,6] (fun a i=>∃ (j:Nat) (m:Int),j<=n/\i = .int .i64 j/\a = .int .i64 m /\ -4611686018427387904 < m/\m < 4611686018427387904/\Hid (Hp.sums (l.drop j) j m=some r)) (fun _ i=>n-(intOf i).toNat)
  case atStart=>exact ⟨0,_,Nat.zero_le _,rfl,rfl,hn1,hn2,HR⟩
  case round=>
   obtain ⟨j,m,hj,rfl,rfl,hm1,hm2,HS⟩:=hrel
   by_cases hlt:j < n
   . have hjl:j < l.length:=by rw [HL.out];exact hlt
     have hs:=HS.out;rw [List.drop_eq_getElem_cons hjl] at hs;obtain ⟨f,hf,hs⟩:=Option.bind_eq_some_iff.1 hs;obtain ⟨m',hm',hs⟩:=Option.bind_eq_some_iff.1 hs;obtain ⟨hfe,hf1,hf2⟩:=ck_some hf;obtain ⟨rfl,hm3,hm4⟩:=ck_some hm';rw [<- hfe] at hf1 hf2;obtain ⟨b,o,rfl,hb,hc⟩:=H.out.cells (by omega);have g:=hc j f (by unfold Hp.rd;rw [List.getElem?_eq_getElem hjl,hfe]);have HT:=hZ hs;clear hs hf hfe hm' hc HS;generalize he:((j:Int)+1) * f=q at hm3 hm4 HT;have e2:wrap64 (((j:Int)+1) * f)=q:=by rw [he];exact IntWalk.wrap64_in _ ⟨by omega,by omega⟩
     clear he;go_wp2
     go_round
     case rel=>exact ⟨j+1,m+q,by omega,by go_num,rfl,hm3,hm4,HT⟩
     case measure=>simp [intOf];omega
   have:j=n:=by omega
   subst this;have hs:=HS.out;rw [List.drop_of_length_le (by rw [HL.out];exact Nat.le_refl _)] at hs;obtain rfl:m=r:=by simpa [Hp.sums] using hs
   clear hs HS HR;obtain ⟨q1,q2,q3⟩:=tmod16 m;have Q:=hZ q3;clear q3;have q4 : -9223372036854775808<=m.tmod 16+16:=by omega
   have q5:m.tmod 16+16<=9223372036854775807:=by omega
   have q6:0<=m.tmod 16+16:=by omega
   go_wp2;go_returns;refine ⟨?_,exx⟩;show Ending.returned (Value.int IntKind.i64 (m.tmod 16 % 16))=_;rw [Q.out]
theorem dIsCell_is {f n:Int} (h1:f=0 -> -9999<=n/\n<=9999) (h2:f ≠ 0->n=0) (h3:0<=f) (h4:f<=4) :
    Calls Tryz.prog 134 #[.agg #[.int .u8 f,.int .i64 n]] w fun e w'=>e = .returned (.bool true)/\Ext w w':=by
  by_cases h0:f=0
  . subst h0;obtain ⟨k1,k2⟩:=h1 rfl;have e:Hp.within (-9999) 9999 n=true:=by simp [Hp.within,k1,k2]
    have IN:=hZ (fun W=>e ▸ dIn n (-9999) 9999 W);clear h1 h2 e;go_enter Tryz.func134,Tryz.ntmps134
    go_wp2_with (go_at_call 66;refine (IN.out _).mono ?_;rintro e w1 ⟨rfl,hb1⟩;obtain ⟨hc1,hf1,hs1⟩:=hb1.cells;have hz1_0:w.heap.size < w1.heap.size:=(by have h:=hb1.le;(try simp at h);omega);have hc1_0:=hb1.cell (b:=w.heap.size) (by first | omega | (simp;done) | (simp;omega));have hf1_0:=hb1.frozen (b:=w.heap.size) (by first | omega | (simp;done) | (simp;omega)))
    go_returns;exact ⟨rfl,exx⟩
  have hn:=h2 h0;subst hn;have t0:(f == 0)=false:=by simpa using h0
  have t1:decide (f<=4)=true:=decide_eq_true h4;clear h1 h2;go_enter Tryz.func134,Tryz.ntmps134
  go_wp2_with fail
  go_returns;exact ⟨rfl,exx⟩
def cellsI (S:Hp.Hs):List Int:=S.taken.map fun a:Nat=>(a:Int)
theorem Hp.Wf.pick_ {ch:Nat->List Nat} (h:Hp.Wf S B L ch):pick false L=cellsI S:=by
 rw [pick_cells,<- h.taken]
 rfl
theorem rCells_ {r:Rd} {ch:Nat->List Nat} (h:RAt w r S) (hw:Hp.Wf S B L ch):Calls Tryz.prog 82 #[.pointer (some ⟨r.rb,0,none⟩)] w (ListPost w (cellsI S)):=by
 rw [<- hw.pick_]
 exact rCells h hw.fr.toFr hw.hi hw.parts
theorem cellsI_mem:x ∈ cellsI S ↔ ∃ a ∈ S.taken,x=(a:Int):=by
 unfold cellsI
 rw [List.mem_map]
 constructor
 . rintro ⟨a,h1,h2⟩;exact ⟨a,h1,h2.symm⟩
 rintro ⟨a,h1,h2⟩
 exact ⟨a,h1,h2.symm⟩
theorem rHas_is {b:Bool} (hb:l.contains x=b) (h:SliceAt w p c l):Calls Tryz.prog 85 #[.slice p l.length c,.int .i64 x] w fun e w'=>e = .returned (.bool b)/\Ext w w':=by
 rw [<- hb]
 exact rHas h
theorem rIs {r:Rd} {ch:Nat->List Nat} (h:RAt w r S) (hw:Hp.Wf S B L ch) (x:Int):Calls Tryz.prog 26 #[.pointer (some ⟨r.rb,0,none⟩),.int .i64 x] w fun e w'=>e = .returned (.bool ((cellsI S).contains x))/\Ext w w':=by
 have HC:=hZ (rCells_ h hw)
 obtain ⟨b,hb⟩:∃ b,(cellsI S).contains x=b:=⟨_,rfl⟩
 rw [hb]
 have HB:=hZ hb
 clear h hw hb
 go_enter Tryz.func26,Tryz.ntmps26
 go_wp2_with (first
  | (go_at_call 82;refine HC.out.mono ?_;rintro e w1 ⟨p,c,rfl,hR,hE⟩;have SA:=hZ hR.at_)
  | (go_at_call 85;refine (rHas_is HB.out SA.out).mono ?_;rintro e w2 ⟨rfl,hE2⟩))
 go_returns
 exact ⟨rfl,hE.trans hE2⟩
theorem rIs_yes {r:Rd} {ch:Nat->List Nat} (h:RAt w r S) (hw:Hp.Wf S B L ch) (ha:a ∈ S.taken):Calls Tryz.prog 26 #[.pointer (some ⟨r.rb,0,none⟩),.int .i64 a] w fun e w'=>e = .returned (.bool true)/\Ext w w':=by
 have:=rIs h hw (a:Int)
 rw [show (cellsI S).contains (a:Int)=true by simpa using cellsI_mem.2 ⟨a,ha,rfl⟩] at this
 exact this
theorem fieldAt {r:Rd} {ch:Nat->List Nat} (h:RAt w r S) (hw:Hp.Wf S B L ch) (ha:a ∈ S.taken):SliceAt w (some ⟨r.gb,r.go+(a+4),none⟩) (r.wc-(a+4)) (Hp.fz (Hp.ow S.words) S.sizes a):=by
 have pa:=hw.part ha
 have hle:=h.words.le
 have hcap:=h.words.cap
 obtain ⟨b,o,e,hb,hc⟩:=h.words.cells (by omega)
 cases e
 refine ⟨by rw [Hp.fz_length];omega,by omega,fun x hx=>?_,fun _=>⟨r.gb,r.go+(a+4),rfl,hb,fun j x hx=>?_⟩⟩
 . have:=hw.fld_le ha x hx;omega
 have hj:=rd_lt hx
 rw [Hp.fz_length] at hj
 unfold Hp.rd Hp.fz at hx
 rw [Hp.cut_get hj] at hx
 cases hx
 have:=hc (a+4+j) _ (Hp.rd_ow (by omega))
 rw [Nat.add_assoc,Nat.add_assoc]
 rw [Nat.add_assoc] at this
 exact this
set_option maxHeartbeats 2000000 in
theorem rField {r:Rd} {ch:Nat->List Nat} (h:RAt w r S) (hw:Hp.Wf S B L ch) (ha:a ∈ S.taken) :
    Calls Tryz.prog 88 #[.pointer (some ⟨r.rb,0,none⟩),.int .i64 a] w fun e w'=>e = .returned (.slice (some ⟨r.gb,r.go+(a+4),none⟩) (Hp.fz (Hp.ow S.words) S.sizes a).length (r.wc-(a+4)))/\Ext w w':=by
  have pa:=hw.part ha;have hle:=h.words.le;have hcap:=h.words.cap;have LONG:=hZ (fun W (hW:Ext w W)=>rLong_cell (h.ext hW) hw.fr.toFr (a:=a) (by omega) (hw.cells.tags a ha));rw [Hp.fz_length];have c2:=h.c2;have hlt:=h.lt;have hhi:=hw.hi;clear h hw ha;generalize S.words.length=n at *;generalize hk:Hp.wz S.sizes (Hp.ow S.words a)=k at *;clear hk;have s1:IntKind.i64.wrap ((a:Int)+4)=(a:Int)+4:=IntWalk.i64_in _ (by omega);have s2:IntKind.i64.wrap ((a:Int)+(k:Int))=(a:Int)+(k:Int):=IntWalk.i64_in _ (by omega);have s3:(0:Int)<=(a:Int)+4:=by omega
  have s4:(a:Int)+4<=(a:Int)+(k:Int):=by omega
  have s5:(a:Int)+(k:Int)<=(r.wc:Int):=by omega
  have s6:((a:Int)+4).toNat=a+4:=by omega
  have s7:((a:Int)+(k:Int)).toNat=a+k:=by omega
  have s8:a+k-(a+4)=k-4:=by omega
  have cne:¬ r.wc=a+4:=by omega
  go_enter Tryz.func88,Tryz.ntmps88
  go_wp2_with fail
  have pr38a:=fun u_ (h_:Ext w u_)=>(h_.cell hlt 2).trans c2
  refine wp_region_seq (S:=fun W=>Ext w W) (R:=Ext) (by kernel_rfl) Ext.refl ?_ ?_
  . exact exx
  refine' tkL 0 ?_;refine' tkL 1 ?_;refine' tkL 2 ?_;refine' tkL 3 ?_;refine' tkL 4 ?_;refine' tkL 5 ?_;refine' tkL 6 ?_;refine' tkL 7 ?_;refine' tkL 8 ?_;refine' tkR 9 (v:=.int .i64 k) rfl (Or.inr ⟨by rfl,67,_, ?hx9_10, ?hy9_10⟩) ?rest9_10
  case hx9_10=>(intro w hSw;go_simp;try with_reducible rfl)
  case hy9_10=>exact fun w hE=>(LONG.out _ hE).mono (fun _ _ h=>⟨h.1,h.2,Ext.trans hE h.2⟩)
  refine layy ?_;refine' tkL 10 ?_;refine' tkL 11 ?_;refine' tkL 12 ?_;refine wpAnyR_done (by kernel_rfl) ?_ _;intro x1 _ Ex1;clear pr38a;go_wp2;go_returns;exact ⟨rfl,exx⟩
theorem cellsI_rd (hj:j < S.taken.length):∃ a ∈ S.taken,S.taken[j]? = some a/\Hp.rd (cellsI S) j=some (a:Int):=by
 refine ⟨S.taken[j],List.getElem_mem hj,List.getElem?_eq_getElem hj, ?_⟩
 simp [Hp.rd,cellsI,hj]
theorem cellsI_len (S:Hp.Hs):(cellsI S).length=S.taken.length:=by simp [cellsI]
set_option maxRecDepth 100000 in
set_option maxHeartbeats 4000000 in
theorem rSame {r:Rd} {ch:Nat->List Nat} (h:RAt w r S) (hw:Hp.Wf S B L ch) (ha:a ∈ S.taken) {qc:Nat} (hq:SliceAt w q qc (Hp.fz (Hp.ow S.words) S.sizes a)) :
    Calls Tryz.prog 133 #[.pointer (some ⟨r.rb,0,none⟩),.int .i64 (Hp.ow S.words a),.slice q (Hp.fz (Hp.ow S.words) S.sizes a).length qc] w fun e w'=>e = .returned (.int .i64 (a:Int))/\Ext w w':=by
  have CELLS:=hZ (rCells_ h hw);have FLD:=hZ (fun b (hb:b ∈ S.taken) W (hW:Ext w W)=>rField (h.ext hW) hw hb);have FAT:=hZ (fun b (hb:b ∈ S.taken) W (hW:Ext w W)=>fieldAt (h.ext hW) hw hb);have HQ:=hZ hq;have H:=hZ h;have HW:=hZ hw;have few:=hw.few;have hhi:=hw.hi;have hle:=h.words.le;have hcap:=h.words.cap;have hlt:=h.lt;have qcap:=hq.cap;obtain ⟨gbb,o',hp',hbb,_⟩:=h.words.cells (by have:=hw.lo;omega)
  cases hp'
  obtain ⟨fs,hfs⟩:∃ fs,Hp.fz (Hp.ow S.words) S.sizes a=fs:=⟨_,rfl⟩
  have HFS:=hZ hfs;obtain ⟨t,ht⟩:∃ t,Hp.ow S.words a=t:=⟨_,rfl⟩
  have HT:=hZ ht;have c2:=h.c2;obtain ⟨n,hn⟩:∃ n,S.words.length=n:=⟨_,rfl⟩
  have EN:=hZ hn;rw [hfs,ht];rw [hn] at c2 hle few hhi;have HA:=hZ ha;have qle:=hq.le;rw [hfs] at qle;clear h hw hq hfs ht hn ha;obtain ⟨m,hm⟩:∃ m,S.taken.length=m:=⟨_,rfl⟩
  have EM:=hZ hm;rw [hm] at few;clear hm;go_enter Tryz.func133,Tryz.ntmps133
  go_wp2_with (go_at_call 82;refine CELLS.out.mono ?_;rintro e w1 ⟨p,c,rfl,hR,hE⟩;rw [cellsI_len,EM.out];have RR:=hZ hR.at_;have E1:=hZ hE)
  clear hR hE CELLS;have lle:=RR.out.le;have lcap:=RR.out.cap;rw [cellsI_len,EM.out] at lle
  go_loopg [8] m (fun g i wr=>∃ j:Nat,j<=m/\m-j<=g/\i = .int .i64 j/\Hid (Ext w1 wr)/\Hid (∀ i,i < j->S.taken[i]? ≠ some a))
  case atStart=>exact ⟨0,Nat.zero_le _,by omega,rfl,hZ (Ext.refl _),hZ (fun i hi=>absurd hi (Nat.not_lt_zero _))⟩
  case round=>
   obtain ⟨j,hj,hg,rfl,E,A⟩:=hrel
   by_cases hlt2:j < m
   . obtain ⟨b,hb,hbj,hrd⟩:=cellsI_rd (S:=S) (j:=j) (by rw [EM.out];exact hlt2);obtain ⟨lb,lo,hlp,hlbb,hlc⟩:=(RR.out.ext E.out).cells (by rw [cellsI_len,EM.out];omega);have gl:=hlc j _ hrd;have Ew:=E1.out.trans E.out;have c2w:=(Ew.cell hlt 2).trans c2;have gw:=(H.out.ext Ew).get (j:=b) (by have:=HW.out.part hb;omega);have pb:=HW.out.part hb;rw [EN.out] at pb;have zb:r.rb < wr.heap.size:=Nat.lt_of_lt_of_le hlt Ew.le;have zg:r.gb < wr.heap.size:=Nat.lt_of_lt_of_le hbb Ew.le;have b1:b < n:=by omega
     have EW:=hZ Ew;have HB:=hZ hb;have HBJ:=hZ hbj;have FLB:=hZ (fun W (hW:Ext w W)=>FLD.out b hb W hW);have FAB:=hZ (fun W (hW:Ext w W)=>FAT.out b hb W hW);obtain ⟨fl,hfl⟩:∃ fl,(Hp.fz (Hp.ow S.words) S.sizes b).length=fl:=⟨_,rfl⟩
     have EFL:=hZ hfl;have tk:decide ((j:Int) < (m:Int))=true:=dT;clear hrd hlc hbj hb pb hfl;subst hlp
     by_cases hba:b=a
     . subst hba;rw [HT.out] at gw;have t0:(t == t)=true:=by simp
       have FLB2:Hid (∀ W,Ext w W->Calls Tryz.prog 88 #[.pointer (some ⟨r.rb,0,none⟩),.int .i64 b] W fun e w'=>e = .returned (.slice (some ⟨r.gb,r.go+(b+4),none⟩) fs.length (r.wc-(b+4)))/\Ext W w'):=hZ (fun W hW=>by rw [<- HFS.out];exact FLB.out W hW);have SM:Hid (∀ W,Ext w W->Calls Tryz.prog 24 #[.slice (some ⟨r.gb,r.go+(b+4),none⟩) fs.length (r.wc-(b+4)),.slice q fs.length qc] W fun e w'=>e = .returned (.bool true)/\Ext W w'):=hZ (fun W hW=>by
        have:=dSame_is (b:=true) (decide_eq_true rfl) (FAB.out W hW) (HQ.out.ext hW);rw [HFS.out] at this;exact this)
       go_wp2_with fail
       have pr39a:=fun u_ (h_:Ext wr u_)=>(h_.cell zb 2).trans c2w
       have pr39b:=fun u_ (h_:Ext wr u_)=>(h_.cell hlbb (lo+j)).trans gl
       have pr39c:=fun u_ (h_:Ext wr u_)=>(h_.cell zg (r.go+b)).trans gw
       refine wp_region_seq (S:=fun W=>Ext wr W) (R:=Ext) (by kernel_rfl) Ext.refl ?_ ?_
       . exact exx
       refine' tkL 0 ?_;refine' tkL 1 ?_;refine' tkL 2 ?_;refine' tkL 3 ?_;refine' tkL 4 ?_;refine' tkL 5 ?_;refine' tkL 6 ?_;refine' tkL 7 ?_;refine' tkL 8 ?_;refine' tkL 9 ?_;refine' tkL 10 ?_;refine' tkL 11 ?_;refine' tkL 12 ?_;refine' tkL 13 ?_;refine' tkL 14 ?_;refine' tkL 15 ?_;refine' tkL 16 ?_;refine' tkL 17 ?_;refine' tkR 18 (v:=.slice (some ⟨r.gb,r.go+(b+4),none⟩) fs.length (r.wc-(b+4))) rfl (Or.inr ⟨by rfl,88,_, ?hx18_19, ?hy18_19⟩) ?rest18_19
       case hx18_19=>(intro w hSw;go_simp;try with_reducible rfl)
       case hy18_19=>exact fun w hE=>(FLB2.out _ (EW.out.trans hE)).mono (fun _ _ h=>⟨h.1,h.2,Ext.trans hE h.2⟩)
       refine layy ?_;refine' tkL 19 ?_;refine' tkR 20 (v:=.bool true) rfl (Or.inr ⟨by rfl,24,_, ?hx20_21, ?hy20_21⟩) ?rest20_21
       case hx20_21=>(intro w hSw;go_simp;try with_reducible rfl)
       case hy20_21=>exact fun w hE=>(SM.out _ (EW.out.trans hE)).mono (fun _ _ h=>⟨h.1,h.2,Ext.trans hE h.2⟩)
       refine layy ?_;refine' tkL 21 ?_;refine wpAnyR_done (by kernel_rfl) ?_ _;intro x1 _ Ex1;clear pr39a pr39b pr39c;have gl2:=(Ex1.cell hlbb (lo+j)).trans gl
       go_wp2_with fail
       go_returns;exact ⟨rfl,EW.out.trans Ex1⟩
     have A2:Hid (∀ i,i < j+1->S.taken[i]? ≠ some a):=hZ (fun i hi=>by
      by_cases e:i=j
      . subst e;rw [HBJ.out]
        simpa using hba
      . exact A.out i (by omega))
     by_cases hbt:Hp.ow S.words b=t
     . rw [hbt] at gw;have t0:(t == t)=true:=by simp
       have FLB2:Hid (∀ W,Ext w W->Calls Tryz.prog 88 #[.pointer (some ⟨r.rb,0,none⟩),.int .i64 b] W fun e w'=>e = .returned (.slice (some ⟨r.gb,r.go+(b+4),none⟩) fl (r.wc-(b+4)))/\Ext W w'):=hZ (fun W hW=>by rw [<- EFL.out];exact FLB.out W hW);have SM:Hid (∀ W,Ext w W->Calls Tryz.prog 24 #[.slice (some ⟨r.gb,r.go+(b+4),none⟩) fl (r.wc-(b+4)),.slice q fs.length qc] W fun e w'=>e = .returned (.bool false)/\Ext W w'):=hZ (fun W hW=>by
        have:=dSame_is (b:=false) (decide_eq_false (fun e=>hba (HW.out.cells.one b HB.out a HA.out (hbt.trans HT.out.symm) e))) (FAB.out W hW) (HQ.out.ext hW);rw [HFS.out,EFL.out] at this;exact this)
       clear hbt hba
       go_wp2_with fail
       have pr40a:=fun u_ (h_:Ext wr u_)=>(h_.cell zb 2).trans c2w
       have pr40b:=fun u_ (h_:Ext wr u_)=>(h_.cell hlbb (lo+j)).trans gl
       have pr40c:=fun u_ (h_:Ext wr u_)=>(h_.cell zg (r.go+b)).trans gw
       refine wp_region_seq (S:=fun W=>Ext wr W) (R:=Ext) (by kernel_rfl) Ext.refl ?_ ?_
       . exact exx
       refine' tkL 0 ?_;refine' tkL 1 ?_;refine' tkL 2 ?_;refine' tkL 3 ?_;refine' tkL 4 ?_;refine' tkL 5 ?_;refine' tkL 6 ?_;refine' tkL 7 ?_;refine' tkL 8 ?_;refine' tkL 9 ?_;refine' tkL 10 ?_;refine' tkL 11 ?_;refine' tkL 12 ?_;refine' tkL 13 ?_;refine' tkL 14 ?_;refine' tkL 15 ?_;refine' tkL 16 ?_;refine' tkL 17 ?_;refine' tkR 18 (v:=.slice (some ⟨r.gb,r.go+(b+4),none⟩) fl (r.wc-(b+4))) rfl (Or.inr ⟨by rfl,88,_, ?hx18_41, ?hy18_41⟩) ?rest18_41
       case hx18_41=>(intro w hSw;go_simp;try with_reducible rfl)
       case hy18_41=>exact fun w hE=>(FLB2.out _ (EW.out.trans hE)).mono (fun _ _ h=>⟨h.1,h.2,Ext.trans hE h.2⟩)
       refine layy ?_;refine' tkL 19 ?_;refine' tkR 20 (v:=.bool false) rfl (Or.inr ⟨by rfl,24,_, ?hx20_43, ?hy20_43⟩) ?rest20_43
       case hx20_43=>(intro w hSw;go_simp;try with_reducible rfl)
       case hy20_43=>exact fun w hE=>(SM.out _ (EW.out.trans hE)).mono (fun _ _ h=>⟨h.1,h.2,Ext.trans hE h.2⟩)
       refine layy ?_;refine' tkL 21 ?_;refine wpAnyR_done (by kernel_rfl) ?_ _;intro x1 _ Ex1;clear pr40a pr40b pr40c;have E2:=hZ (E.out.trans Ex1)
       go_wp2_with fail
       go_roundg (m-(j+1))
       case measure=>omega
       case rel=>exact ⟨j+1,by omega,Nat.le_refl _,by go_num,E2,A2⟩
     have t0:(Hp.ow S.words b == t)=false:=by simpa using hbt
     clear hbt hba;generalize Hp.ow S.words b=y at *
     go_wp2_with fail
     have pr41a:=fun u_ (h_:Ext wr u_)=>(h_.cell zb 2).trans c2w
     have pr41b:=fun u_ (h_:Ext wr u_)=>(h_.cell hlbb (lo+j)).trans gl
     have pr41c:=fun u_ (h_:Ext wr u_)=>(h_.cell zg (r.go+b)).trans gw
     refine wp_region_seq (S:=fun W=>Ext wr W) (R:=Ext) (by kernel_rfl) Ext.refl ?_ ?_
     . exact exx
     refine' tkL 0 ?_;refine' tkL 1 ?_;refine' tkL 2 ?_;refine' tkL 3 ?_;refine' tkL 4 ?_;refine' tkL 5 ?_;refine' tkL 6 ?_;refine' tkL 7 ?_;refine' tkL 8 ?_;refine' tkL 9 ?_;refine' tkL 10 ?_;refine' tkL 11 ?_;refine' tkL 12 ?_;refine' tkN 13 ?_;refine' tkN 14 ?_;refine' tkN 15 ?_;refine' tkN 16 ?_;refine' tkN 17 ?_;refine' tkN 18 ?_;refine' tkN 19 ?_;refine' tkN 20 ?_;refine' tkL 21 ?_;refine wpAnyR_done (by kernel_rfl) ?_ _;intro x1 _ Ex1;clear pr41a pr41b pr41c;have E2:=hZ (E.out.trans Ex1)
     go_wp2_with fail
     go_roundg (m-(j+1))
     case measure=>omega
     case rel=>exact ⟨j+1,by omega,Nat.le_refl _,by go_num,E2,A2⟩
   exfalso;have:j=m:=by omega
   subst this;obtain ⟨i,hi,e⟩:=List.getElem_of_mem HA.out;exact A.out i (by rw [<- EM.out];exact hi) (by rw [List.getElem?_eq_getElem hi,e])
namespace Hp
end Hp
namespace Hp
def AllLive (S:Hs):Prop:=∀ T,S.live=some T -> ∀ a ∈ S.taken,a ∈ T
theorem coll_live {B':Nat} {L':List Tl} {ch ch':Nat->List Nat} (h:Wf S B L ch) (h':Wf S' B' L' ch') (hT:S.live=some T) (c:Coll S S' T):AllLive S':=by
 intro T' hT' a ha
 obtain ⟨T0,e0,t1,t2,t3,t4,t5⟩:=h.live_
 rw [hT] at e0
 cases e0
 obtain ⟨T1,e1,u1,u2,u3,u4,_⟩:=h'.live_
 rw [hT'] at e1
 cases e1
 have inT:∀ a,a ∈ S'.taken ↔ a ∈ S.taken/\a ∈ T:=fun a=>by rw [c.taken];simp
 refine t5 T' (fun b hb h0=>?_) (fun b hb k hk=>?_) a ((inT a).1 ha).2
 . have hb':b ∈ S'.taken:=(inT b).2 ⟨hb,t3 b hb h0⟩;refine u3 b hb' ?_;rw [c.hold b hb'];exact h0
 refine u4 b hb k ?_
 rw [c.sizes,c.old.kz_ (u2 b hb)]
 exact hk
theorem unlinkFrom_all {W:List Int} {T:List Nat}:∀ (r:List Nat) (l n:Nat),Path (ow W) l r->(∀ a ∈ r,a ∈ T/\a+3 < W.length)->l < W.length->r.length < n->Hs.unlinkFrom T n W l=some W
 | _,_,0,_,_,_,hn=>by omega
 | [],l,n+1,hp,_,hl,_=>by
  have e:ow W l=0:=hp;unfold Hs.unlinkFrom;rw [ra_ow hl (a:=0) e];rfl
 | a :: r,l,n+1,hp,hr,hl,hn=>by
  obtain ⟨e,h0,hp⟩:=hp;obtain ⟨ha,hb⟩:=hr a (by simp);unfold Hs.unlinkFrom;rw [ra_ow hl e];simp only [Option.bind_eq_bind,Option.bind_some];rw [if_neg h0,if_pos (by simpa using ha)];exact unlinkFrom_all r (a+3) n hp (fun b hb=>hr b (by simp [hb])) hb (by simpa using hn)
theorem unlinks_all {W:List Int} {T:List Nat} {n:Nat}:∀ ls:List Nat,(∀ c ∈ ls,Hs.unlinkFrom T n W c=some W)->Hs.unlinks T n W ls=some W
 | [],_=>rfl
 | l :: r,h=>by
  unfold Hs.unlinks;rw [h l (by simp)];exact unlinks_all r fun c hc=>h c (by simp [hc])
theorem collect_all {ch:Nat->List Nat} (h:Wf S B L ch) (hl:AllLive S):S.collect=some (0,S):=by
 obtain ⟨T,hT,_⟩:=h.live_
 have hlo:=h.lo
 have hu:S.unlink T=some S:=by
  unfold Hs.unlink;rw [unlinks_all (List.range 16) fun c hc=>?_]
  . rfl
  have hc:c < 16:=by simpa using hc
  have hm:∀ a ∈ ch c,a ∈ S.taken:=fun a ha=>((h.chains.mem c hc a).1 ha).1
  have hln:=nodup_len (h.chains.nodup c hc) hm;exact unlinkFrom_all (ch c) c _ (h.chains.path c hc) (fun a ha=>⟨hl T hT a (hm a ha),by have:=h.part (hm a ha);omega⟩) (by omega) (by have:=h.few;unfold Hs.fuel;omega)
 have h0:(S.taken.filter fun a=>!T.contains a)=[]:=by
  rw [List.filter_eq_nil_iff];intro a ha;simp [hl T hT a ha]
 unfold Hs.collect
 rw [hT]
 simp only [Option.bind_eq_bind,Option.bind_some]
 rw [hu]
 simp only [Option.bind_some]
 rw [h0]
 rfl
end Hp
end Go.Proofs.YtdokmmhjmclmnaaGreat
