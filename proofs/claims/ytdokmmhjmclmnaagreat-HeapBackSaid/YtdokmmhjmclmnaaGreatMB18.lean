/-
  Part 18 of a proof: PL13 HFn51 HFn52 PL17 PL34 PN5.
-/
import Derived.DeepKeys4
import Derived.Maps.Own
import Derived.Test.YtdokmmhjmclmnaaGreatMB06
import Derived.Test.YtdokmmhjmclmnaaGreatMB09
import Derived.Test.YtdokmmhjmclmnaaGreatMB13
import Derived.Test.YtdokmmhjmclmnaaGreatMB14
import Derived.Test.YtdokmmhjmclmnaaGreatMB17
set_option linter.unusedSimpArgs false
set_option linter.unusedVariables false
set_option linter.unusedSectionVars false
set_option linter.unnecessarySimpa false
namespace Go.Proofs.YtdokmmhjmclmnaaGreat
namespace Hp
theorem isEnd_of {fault:Int} (h0:0 ≤ fault) (h4:fault ≤ 4):isEnd (20+fault)=true:=by
 simp [isEnd,within]
 omega
theorem new_end {S:Hs} {fault n:Int} (h0:0 ≤ fault) (h4:fault ≤ 4) (hn:fault > 0 → n=0) (h1 : -9999 ≤ n) (h2:n ≤ 9999):New S (20+fault) [n]:=by
 have he:=isEnd_of h0 h4
 refine ⟨by simp [okTag,he],by simp [wz,he],fun _ x hx=>?_,fun h=>?_,fun h=>?_⟩
 · have:x=n:=by simpa using hx
   subst this;exact ⟨h1,h2,fun h=>hn (by omega)⟩
 · rw [he] at h;cases h
 · rw [he] at h;cases h
structure Grown (S S':Hs):Prop where
 sizes:S'.sizes=S.sizes
 order:S'.order=S.order
 len:S'.words.length=S.words.length
theorem Grown.refl (S:Hs):Grown S S:=⟨rfl,rfl,rfl⟩
theorem Grown.trans {A B C:Hs} (h:Grown A B) (k:Grown B C):Grown A C:=⟨k.sizes.trans h.sizes,k.order.trans h.order,k.len.trans h.len⟩
def Good (S:Hs) (B:Nat):Prop:=∃ L ch,Wf S B L ch
theorem Wf.more {S:Hs} {B B':Nat} {L:List Tl} {ch:Nat → List Nat} (h:Wf S B L ch) (hB:B ≤ B') (hb:B' ≤ 100000):Wf S B' L ch:=
 { h with bd:=hb,holds:=fun a ha=>by have:=h.holds a ha;omega }
theorem add_good {S:Hs} {B:Nat} (h:Good S B) {t:Int} {fs:List Int} (hn:New S t fs):∃ a S',S.add t fs=some (a,S') ∧ Good S' B ∧ Grown S S':=by
 obtain ⟨L,ch,h⟩:=h
 rcases add_wf h hn with ⟨a,_,_,_,e⟩ | ⟨_,⟨_,e⟩ | ⟨P,u,Q,S',_,_,_,_,e,hp,hw⟩⟩
 · exact ⟨a,S,e,⟨L,ch,h⟩,.refl _⟩
 · exact ⟨0,S,e,⟨L,ch,h⟩,.refl _⟩
 · exact ⟨u.a,S',e,⟨_,_,hw⟩,⟨hp.sizes,hp.order,hp.len⟩⟩
theorem end_good {S:Hs} {B:Nat} (h:Good S B) {fault n:Int} (h0:0 ≤ fault):∃ r e S',S.end' fault n=some (r,e,S') ∧ Good S' B ∧ Grown S S':=by
 unfold Hs.end'
 split
 · exact ⟨0,4,S,rfl,h,.refl _⟩
 · rename_i hc;simp only [not_or,Bool.not_eq_false,within,Bool.and_eq_true,decide_eq_true_eq] at hc;obtain ⟨h1,h2,h3⟩:=hc;obtain ⟨a,S',e,hg,hr⟩:=add_good h (new_end (S:=S) (fault:=fault) (n:=n) h0 (by omega) (fun hf=>by omega) h3.1 h3.2);rw [e];simp only [Option.bind_eq_bind,Option.bind_some];unfold Hs.full;simp only
   split
   · exact ⟨_,_,S',rfl,hg,hr⟩
   · exact ⟨_,_,S',rfl,hg,hr⟩
theorem laters_total {S:Hs} {B:Nat} {L:List Tl} {ch:Nat → List Nat} (h:Wf S B L ch) (c:Int):∀ (l:List Int),(∀ x ∈ l,S.has x=true) → ∃ b,S.laters c l=some b ∧ (b=true ↔ ∀ x ∈ l,∃ k ∈ S.taken,x=(k:Int) ∧ rank S.order (c+1) < rank S.order (ow S.words k))
 | [],_=>⟨true,rfl,by simp⟩
 | x :: l,hl=>by
  obtain ⟨k,rfl,hk⟩:=has_yes (hl x (by simp));obtain ⟨b,h1,h2⟩:=laters_total h c l fun y hy=>hl y (by simp [hy])
  have ht:=h.tag_le hk;unfold Hs.laters;rw [show adr (k:Int)=some k by simp [adr]];simp only [Option.bind_eq_bind,Option.bind_some,h.tag_ hk];rw [ck_in (by omega) (by omega)];simp only [Option.bind_some]
  by_cases hr:rank S.order (ow S.words k) > rank S.order (c+1)
  · rw [if_pos hr,h1];refine ⟨b,rfl,h2.trans ⟨fun hh y hy=>?_,fun hh y hy=>hh y (by simp [hy])⟩⟩
    rcases List.mem_cons.1 hy with rfl | hy
    · exact ⟨k,hk,rfl,hr⟩
    · exact hh y hy
  · rw [if_neg hr];refine ⟨false,rfl,⟨(fun h=>by cases h),fun hh=>?_⟩⟩;obtain ⟨k',hk',e,hr'⟩:=hh (k:Int) (by simp);have:k=k':=by omega
    subst this;exact absurd hr' hr
theorem checkNode_total {S:Hs} {B:Nat} {L:List Tl} {ch:Nat → List Nat} (h:Wf S B L ch) (c:Int) (l:List Int):∃ e,S.checkNode c l=some e ∧ (e=0 → isNode S.sizes (c+1)=true ∧ l.length=wz S.sizes (c+1)-4 ∧ ∀ x ∈ l,∃ k ∈ S.taken,x=(k:Int) ∧ rank S.order (c+1) < rank S.order (ow S.words k)):=by
 unfold Hs.checkNode
 cases hw:within 0 ((S.sizes.length:Int)-1) c with
 | false=>exact ⟨3,by simp,fun h=>by cases h⟩
 | true=>
  simp only [within,Bool.and_eq_true,decide_eq_true_eq] at hw;have hc:c.toNat < S.sizes.length:=by omega
  simp only [Bool.true_eq_false,if_false];rw [rd_ow hc];simp only [Option.bind_eq_bind,Option.bind_some]
  by_cases h1:(l.length:Int) ≠ ow S.sizes c.toNat
  · exact ⟨4,by rw [if_pos h1],fun h=>by cases h⟩
  · rw [if_neg h1]
    cases hh:l.all S.has with
    | false=>exact ⟨7,by simp,fun h=>by cases h⟩
    | true=>
     simp only [Bool.true_eq_false,if_false];rw [List.all_eq_true] at hh;obtain ⟨b,e1,e2⟩:=laters_total h c l hh;rw [e1];simp only [Option.bind_some]
     cases b with
     | false=>exact ⟨2,by simp,fun h=>by cases h⟩
     | true=>
      refine ⟨0,by simp,fun _=>⟨?_, ?_,e2.1 rfl⟩⟩
      · simp [isNode,within];omega
      · have hne:isEnd (c+1)=false:=by
          have:=h.fr.few;simp [isEnd,within];omega
        have e3:S.sizes.getD (c+1-1).toNat 0=ow S.sizes c.toNat:=by
         rw [show c+1-1=c by omega];rfl
        unfold wz;rw [hne,e3];simp only [Bool.false_eq_true,if_false];omega
theorem new_node {S:Hs} {B:Nat} {L:List Tl} {ch:Nat → List Nat} (h:Wf S B L ch) {c:Int} {l:List Int} (h1:isNode S.sizes (c+1)=true) (h2:l.length=wz S.sizes (c+1)-4) (h3:∀ x ∈ l,∃ k ∈ S.taken,x=(k:Int) ∧ rank S.order (c+1) < rank S.order (ow S.words k)) (h4:Hs.alike l=false):New S (c+1) l:=by
 have hne:isEnd (c+1)=false:=by
  have:=h.fr.few;simp only [isNode,within,Bool.and_eq_true,decide_eq_true_eq] at h1;simp [isEnd,within];omega
 exact ⟨by simp [okTag,h1],h2,(fun he=>by rw [hne] at he;cases he),fun _=>h3,fun _=>h4⟩
theorem make_good {S:Hs} {B:Nat} (h:Good S B) (c:Int) (l:List Int):∃ r e S',S.make c l=some (r,e,S') ∧ Good S' B ∧ Grown S S':=by
 obtain ⟨L,ch,hw⟩:=id h
 obtain ⟨e,h1,h2⟩:=checkNode_total hw c l
 unfold Hs.make
 rw [h1]
 simp only [Option.bind_eq_bind,Option.bind_some]
 by_cases he:e ≠ 0
 · rw [if_pos he];exact ⟨_,_,S,rfl,h,.refl _⟩
 · rw [if_neg he];obtain ⟨k1,k2,k3⟩:=h2 (by omega);have hwz:=wz_ok hw.fr.toFr (t:=c+1) (by simp [okTag,k1])
   cases ha:Hs.alike l with
   | true=>
    simp only [if_true]
    cases l with
    | nil=>simp at k2;omega
    | cons x l=>exact ⟨x,0,S,rfl,h,.refl _⟩
   | false=>
    simp only [Bool.false_eq_true,if_false];obtain ⟨a,S',e,hg,hr⟩:=add_good h (new_node hw k1 k2 k3 ha);rw [e];simp only [Option.bind_some];unfold Hs.full;simp only
    split
    · exact ⟨_,_,S',rfl,hg,hr⟩
    · exact ⟨_,_,S',rfl,hg,hr⟩
theorem new_wf {z o:List Int} (hz:FrOk z o) {n:Nat} (h1:20 ≤ n) (h2:n ≤ 100000):∃ S,Hp.new z o n=some S ∧ S.sizes=z ∧ S.order=o ∧ S.words.length=n ∧ Wf S 0 [⟨17,n-17,true⟩] (fun _=>[]):=by
 obtain ⟨W1,e1,l1,g1⟩:=wr_ow (W:=List.replicate n (0:Int)) (i:=16) 17 (by simp;omega)
 rw [List.length_replicate] at l1
 obtain ⟨W2,e2,l2,g2⟩:=wr_ow (W:=W1) (i:=18) ((n:Int)-17) (by omega)
 have G:∀ j,ow W2 j=if j=18 then (n:Int)-17 else if j=16 then 17 else 0:=fun j=>by rw [g2,g1,ow_rep]
 refine ⟨⟨z,o,W2,[]⟩, ?_,rfl,rfl,l2.trans l1, ?_⟩
 · unfold Hp.new;rw [e1];simp only [Option.bind_eq_bind,Option.bind_some];rw [e2];rfl
 · exact
   { fr:=hz
     lo:=by show 20 ≤ W2.length;omega
     hi:=by show W2.length ≤ 100000;omega
     bd:=by omega
     parts:=by
      show Parts (ow W2) z _ W2.length;refine ⟨⟨rfl,by show 3 ≤ n-17;omega, ?_⟩,⟨?_, ?_⟩,trivial,fun t ht=>?_⟩
      · show 17+(n-17)=W2.length;omega
      · rw [G];rfl
      · show ow W2 (17+2)=0;rw [G];rfl
      · have:t=⟨17,n-17,true⟩:=by simpa using ht
        subst this;unfold PartOk;simp only [if_true];refine ⟨by rw [G];rfl, ?_,fun j h1 h2=>?_⟩
        · show ow W2 18=((n-17:Nat):Int);rw [G,if_pos rfl];omega
        · rw [G,if_neg (by omega),if_neg (by omega)]
     taken:=rfl
     chains:=⟨fun c hc=>by show ow W2 c=0;rw [G,if_neg (by omega),if_neg (by omega)],by simp,by simp⟩
     cells:=⟨by simp,by simp,by simp,by simp,by simp⟩
     uses:=fun a ha=>by cases ha
     holds:=fun a ha=>by cases ha }
end Hp
open Go.RowKit Go.Maps Go.Sort Go.Shelf
structure SeenInv (T D:List Nat) (left:Lit → Bool):Prop where
 nd:D.Nodup
 sub:∀ x ∈ D,x ∈ T
 all:∀ x ∈ T,left (.int .i64 (x:Int))=false → x ∈ D
 out:∀ x ∈ D,left (.int .i64 (x:Int))=false
theorem SeenInv.nil (T:List Nat):SeenInv T [] (Maps.has (mapOf T)) where
 nd:=List.Pairwise.nil
 sub:=by simp
 all x hx h:=by
  rw [has_mapOf,hasLit_int] at h;have:T.contains x=true:=by simpa using hx
  rw [this] at h
  cases h
 out:=by simp
theorem SeenInv.step {T D:List Nat} {left:Lit → Bool} {x:Nat} (h:SeenInv T D left) (hx:x ∈ T) (hl:left (.int .i64 (x:Int))=true):SeenInv T (D ++ [x]) (fun z=>left z && !z.sameKey (.int .i64 x)):=by
 have hn:x ∉ D:=fun hm=>by
  have:=h.out x hm;rw [hl] at this
  cases this
 refine ⟨List.nodup_append.2 ⟨h.nd,by simp,fun a ha b hb e=>?_⟩,fun y hy=>?_,fun y hy hh=>?_,fun y hy=>?_⟩
 · have:b=x:=by simpa using hb
   subst this e;exact hn ha
 · rcases List.mem_append.1 hy with hy | hy
   · exact h.sub y hy
   · have:y=x:=by simpa using hy
     subst this;exact hx
 · rcases left_false hh with h1 | rfl
   · simp [h.all y hy h1]
   · simp
 · rcases List.mem_append.1 hy with hy | hy
   · show (left (.int .i64 (y:Int)) && _)=false;rw [h.out y hy];rfl
   · have:y=x:=by simpa using hy
     subst this;show (left (.int .i64 (y:Int)) && !(Lit.int .i64 (y:Int)).sameKey (.int .i64 y))=false;simp [Lit.sameKey]
theorem SeenInv.perm {T D:List Nat} {left:Lit → Bool} (h:SeenInv T D left) (hT:T.Nodup) (hl:∀ kl,left kl=false):D.Perm T:=by
 rw [List.perm_ext_iff_of_nodup h.nd hT]
 exact fun x=>⟨h.sub x,fun hx=>h.all x hx (hl _)⟩
def CountsAre (S:Hp.Hs) (D:List Nat) (part:List Int) (M:List (Nat × Int)):Prop:=∀ y:Nat,(getI y M).getD 0=((Hp.cnt (Hp.ow S.words) S.sizes y D+part.count (y:Int):Nat):Int)
theorem CountsAre.put {S:Hp.Hs} {D:List Nat} {part:List Int} {M:List (Nat × Int)} {b:Nat} (h:CountsAre S D part M) (hu:KeysUp M):CountsAre S D (part ++ [(b:Int)]) (putI b ((getI b M).getD 0+1) M):=fun y=>by
 rw [getI_put hu,List.count_append]
 by_cases e:y=b
 · subst e;rw [if_pos rfl,Option.getD_some,h y];simp;omega
 · rw [if_neg e,h y];have:List.count (y:Int) [(b:Int)]=0:=by
    rw [List.count_eq_zero];simp;omega
   rw [this];rfl
open Go.RowKit Go.Maps
theorem cellKT:Tryz.prog.keyTypeAt 3 152=true:=by kernel_rfl
theorem cellTI:Tryz.prog.tiled 3 152=true:=by kernel_rfl
theorem three_le:3+1 ≤ 10000:=Nat.le_of_ble_eq_true (by kernel_rfl)
theorem cellLaw:WideMaps.KeyLaw Tryz.prog 152:=deep_law (m:=3) three_le cellKT cellTI (by rw [Tryz.underlying152])
theorem cellKeyed:Maps.Keyed Tryz.prog 152:=Maps.Keyed.of_law cellLaw
theorem keyLits_int (d:Nat) {x:Int} (h : -9223372036854775808 ≤ x ∧ x ≤ 9223372036854775807):Tryz.prog.keyLits (d+1) 3 [.int .i64 x]=some [.int .i64 x]:=by
 unfold Program.keyLits
 rw [Tryz.underlying3]
 have wf:(Lit.int .i64 x).wf=true:=WalkArith.wf_i64 (by omega)
 simp [wf]
theorem types_le:3 ≤ Tryz.prog.types.size:=Nat.le_of_ble_eq_true (by kernel_rfl)
theorem cellsOf_cell:Tryz.prog.cellsOf 152=13:=by kernel_rfl
theorem cellsOf_arr:Tryz.prog.cellsOf 150=12:=by kernel_rfl
theorem cellsOf_int:Tryz.prog.cellsOf 3=1:=by kernel_rfl
theorem keyType_cell:Tryz.prog.keyType 152=true:=by kernel_rfl
theorem keyOf_cell {l:List Int} (hl:l.length=13) (h:∀ x ∈ l,-9223372036854775808 ≤ x ∧ x ≤ 9223372036854775807):∃ k,keyOf Tryz.prog 152 (.agg (ints l).toArray)=some k:=by
 match l,hl with
 | [a0,a1,a2,a3,a4,a5,a6,a7,a8,a9,a10,a11,a12],_=>
  obtain ⟨d,hd⟩:∃ d,Tryz.prog.types.size=d+2:=⟨Tryz.prog.types.size-2,by have:=types_le;omega⟩
  have e:∀ x ∈ [a0,a1,a2,a3,a4,a5,a6,a7,a8,a9,a10,a11,a12],∀ d,Tryz.prog.keyLits (d+1) 3 [.int .i64 x]=some [.int .i64 x]:=fun x hx d=>keyLits_int d (h x hx)
  have arr:∃ k,Tryz.prog.keyLits (d+2) 150 [.int .i64 a1,.int .i64 a2,.int .i64 a3,.int .i64 a4,.int .i64 a5,.int .i64 a6,.int .i64 a7,.int .i64 a8,.int .i64 a9,.int .i64 a10,.int .i64 a11,.int .i64 a12]=some k:=by
   unfold Program.keyLits;rw [Tryz.underlying150];simp only [cellsOf_arr,cellsOf_int];simp [List.range,List.range.loop,e a1 (by simp),e a2 (by simp),e a3 (by simp),e a4 (by simp),e a5 (by simp),e a6 (by simp),e a7 (by simp),e a8 (by simp),e a9 (by simp),e a10 (by simp),e a11 (by simp),e a12 (by simp)]
  obtain ⟨k,hk⟩:=arr;have top:∃ k,Tryz.prog.keyLits (d+3) 152 [.int .i64 a0,.int .i64 a1,.int .i64 a2,.int .i64 a3,.int .i64 a4,.int .i64 a5,.int .i64 a6,.int .i64 a7,.int .i64 a8,.int .i64 a9,.int .i64 a10,.int .i64 a11,.int .i64 a12]=some k:=by
   unfold Program.keyLits;rw [Tryz.underlying152];simp only [cellsOf_cell];simp [cellsOf_arr,cellsOf_int,e a0 (by simp),hk]
  obtain ⟨k',hk'⟩:=top;unfold keyOf;rw [Tryz.underlying152];simp only;have hf:(Value.agg (ints [a0,a1,a2,a3,a4,a5,a6,a7,a8,a9,a10,a11,a12]).toArray).formed Tryz.prog 152=true:=by
   simp [Value.formed,Tryz.underlying152,cellsOf_cell,ints]
  rw [keyType_cell,hf,hd];simp only [Bool.and_self,if_true];rw [show (Value.agg (ints [a0,a1,a2,a3,a4,a5,a6,a7,a8,a9,a10,a11,a12]).toArray).cells.toList=[.int .i64 a0,.int .i64 a1,.int .i64 a2,.int .i64 a3,.int .i64 a4,.int .i64 a5,.int .i64 a6,.int .i64 a7,.int .i64 a8,.int .i64 a9,.int .i64 a10,.int .i64 a11,.int .i64 a12] from rfl,hk'];exact ⟨_,rfl⟩
def KeysAt (w:World) (g:Nat) (Ks:List (List Int)):Prop:=∃ D:DataW Unit,w.ownsMap Tryz.prog 152 (plainElem (H:=Unit) Tryz.prog 4) g Ks.length D ∧ ∀ (l:List Int) (kl:Lit),l ∉ Ks → keyOf Tryz.prog 152 (.agg (ints l).toArray)=some kl → ∀ z,D.atKey kl z=z
theorem ints_inj:∀ {a b:List Int},ints a=ints b → a=b
 | [],[],_=>rfl
 | [],_ :: _,h=>by simp [ints] at h
 | _ :: _,[],h=>by simp [ints] at h
 | x :: a,y :: b,h=>by
  simp only [ints,List.map_cons,List.cons.injEq] at h;obtain ⟨h1,h2⟩:=h;injection h1 with _ h1
  rw [h1,ints_inj h2]
namespace KeysAt
variable {w w':World} {g:Nat} {Ks:List (List Int)}
theorem made (w:World):KeysAt (w.alloc (.map #[] 0)) w.heap.size []:=
 ⟨_,World.ownsMap_made w Tryz.prog 152 (plainElem (H:=Unit) Tryz.prog 4),fun _ _ _ _ _=>rfl⟩
theorem lt (h:KeysAt w g Ks):g < w.heap.size:=by
 obtain ⟨D,h1,_⟩:=h
 exact h1.lt
theorem ofBlock (h:KeysAt w g Ks) (e:w'.heap[g]? = w.heap[g]?):KeysAt w' g Ks:=by
 obtain ⟨D,⟨es,clock,hb,r⟩,h2⟩:=h
 exact ⟨D,⟨es,clock,e.trans hb,r⟩,h2⟩
theorem but (h:KeysAt w g Ks) {l:List Nat} (k:But l w w') (hg:g ∉ l):KeysAt w' g Ks:=h.ofBlock (k.block g h.lt hg)
theorem ext (h:KeysAt w g Ks) (k:Ext w w'):KeysAt w' g Ks:=h.ofBlock (k.block g h.lt)
theorem look (h:KeysAt w g Ks) {l:List Int} (hl:l.length=13) (hb:∀ x ∈ l,-9223372036854775808 ≤ x ∧ x ≤ 9223372036854775807) (hn:l ∉ Ks):(Instr.lookup 149 (.map (some g)) (.agg (ints l).toArray) false).run Tryz.prog w = .ok (.bool false) w:=by
 obtain ⟨D,h1,h2⟩:=h
 obtain ⟨kl,hk⟩:=keyOf_cell hl hb
 obtain ⟨v,ps,hrun,hv⟩:=h1.lookup cellKeyed Tryz.underlying149 (Tryz.zeroValue4 w) (plainElem_bool Tryz.underlying4 false) hk
 rw [hrun]
 rw [h2 l kl hn hk] at hv
 rw [plainElem_bool_inv Tryz.underlying4 hv]
theorem put (h:KeysAt w g Ks) {l:List Int} (hl:l.length=13) (hb:∀ x ∈ l,-9223372036854775808 ≤ x ∧ x ≤ 9223372036854775807) (hn:Ks.length < maxLen):∃ w',(Instr.mapUpdate 149 (.map (some g)) (.agg (ints l).toArray) (.bool true)).run Tryz.prog w = .ok () w' ∧ KeysAt w' g (l :: Ks) ∧ w.mapTurned w' g:=by
 obtain ⟨D,h1,h2⟩:=h
 obtain ⟨kl,hk⟩:=keyOf_cell hl hb
 obtain ⟨w',hrun,ho,ht⟩:=h1.store cellKeyed Tryz.underlying149 hn hk (plainElem_bool Tryz.underlying4 true)
 refine ⟨w',hrun,⟨_,ho,fun l' kl' hm hk' z=>?_⟩,ht⟩
 simp only [List.mem_cons,not_or] at hm
 rw [atKey_put_other (fun e=>hm.1 ?_)]
 · exact h2 l' kl' hm.2 hk' z
 · subst e;have h3:=Value.agg.inj (cellKeyed.inj hk' hk);exact ints_inj (List.toArray_inj h3)
end KeysAt
namespace Hp
def prodM (l:List Int):Int:=l.foldl (fun n s=>min 3000 (n * s)) 1
theorem prodM_snoc (l:List Int) (x:Int):prodM (l ++ [x])=min 3000 (prodM l * x):=by simp [prodM,List.foldl_append]
theorem prod_min:∀ (l:List Int) (a:Int),(∀ s ∈ l,1 ≤ s ∧ s ≤ 12) → 1 ≤ a → l.foldl (fun n s=>min 3000 (n * s)) (min 3000 a)=min 3000 (l.foldl (· * ·) a) ∧ 1 ≤ l.foldl (· * ·) a
 | [],a,_,ha=>⟨rfl,ha⟩
 | x :: l,a,h,ha=>by
  obtain ⟨h1,h2⟩:=h x (by simp);have hx:1 ≤ a * x:=by
   have:=Int.mul_le_mul ha h1 (by omega) (by omega);omega
  obtain ⟨i1,i2⟩:=prod_min l (a * x) (fun s hs=>h s (by simp [hs])) hx;refine ⟨?_,i2⟩;simp only [List.foldl_cons];rw [show min 3000 (min 3000 a * x)=min 3000 (a * x) from ?_]
  · exact i1
  · by_cases hc:a ≤ 3000
    · rw [Int.min_eq_right hc]
    · rw [Int.min_eq_left (show (3000:Int) ≤ a by omega)];have e1:(3000:Int) ≤ 3000 * x:=by omega
      have e2:(3000:Int) ≤ a * x:=by
       have:=Int.mul_le_mul (show (3000:Int) ≤ a by omega) h1 (by omega) (by omega);omega
      rw [Int.min_eq_left e1,Int.min_eq_left e2]
theorem prodM_is {l:List Int} (h:∀ s ∈ l,1 ≤ s ∧ s ≤ 12):prodM l=min 3000 (l.foldl (· * ·) 1) ∧ 1 ≤ l.foldl (· * ·) 1:=by
 have:=prod_min l 1 h (by omega)
 exact this
theorem prodM_big {l:List Int} (h:∀ s ∈ l,1 ≤ s ∧ s ≤ 12):prodM l > 2000 ↔ l.foldl (· * ·) 1 > 2000:=by
 rw [(prodM_is h).1]
 omega
def OrdTo (n:Nat) (o:List Int) (i:Nat):Prop:=∀ k x,k < i → rd o k=some x → (0 ≤ x ∧ x ≤ (n:Int)-1) ∧ ∀ m y,m < k → rd o m=some y → y ≠ x
def OrdOk (n:Nat) (o:List Int):Prop:=o.length=n ∧ OrdTo n o n
theorem OrdOk.nodup {n:Nat} {o:List Int} (h:OrdOk n o):o.Nodup:=by
 rw [List.nodup_iff_pairwise_ne,List.pairwise_iff_getElem]
 intro i j hi hj hij e
 have:=(h.2 j o[j] (by have:=h.1;omega) (by unfold rd;rw [List.getElem?_eq_getElem])).2 i o[i] hij (by unfold rd;rw [List.getElem?_eq_getElem])
 exact this e
theorem OrdOk.rng {n:Nat} {o:List Int} (h:OrdOk n o):∀ x ∈ o,0 ≤ x ∧ x < n:=fun x hx=>by
 obtain ⟨i,hi,rfl⟩:=List.getElem_of_mem hx
 have:=(h.2 i o[i] (by have:=h.1;omega) (by unfold rd;rw [List.getElem?_eq_getElem])).1
 omega
theorem mem_upto {n:Nat} {x:Int}:x ∈ upto n ↔ 0 ≤ x ∧ x < n:=by
 unfold upto
 rw [List.mem_map]
 constructor
 · rintro ⟨k,hk,rfl⟩;have:=List.mem_range.1 hk;omega
 · intro h;exact ⟨x.toNat,List.mem_range.2 (by omega),by omega⟩
theorem nodup_lenI:∀ {l m:List Int},l.Nodup → (∀ a ∈ l,a ∈ m) → l.length ≤ m.length
 | [],_,_,_=>Nat.zero_le _
 | a :: r,m,hp,hm=>by
  have ha:a ∈ m:=hm a (by simp);obtain ⟨h1,h2⟩:=List.nodup_cons.1 hp;have:=nodup_lenI (l:=r) (m:=m.erase a) h2 (fun b hb=>(List.mem_erase_of_ne (by rintro rfl;exact h1 hb)).2 (hm b (by simp [hb])));rw [List.length_erase_of_mem ha] at this;have:=List.length_pos_of_mem ha;simp only [List.length_cons];omega
theorem upto_up (n:Nat):(upto n).Pairwise (· < ·):=by
 unfold upto
 rw [List.pairwise_map]
 exact List.pairwise_lt_range.imp fun h=>by omega
theorem full_perm {o:List Int} {n:Nat} (hl:o.length=n) (hn:o.Nodup) (hr:∀ x ∈ o,0 ≤ x ∧ x < n):o.Perm (upto n):=by
 have hsub:∀ x ∈ upto n,x ∈ o:=fun x hx=>by
  apply Classical.byContradiction;intro hne;have:=nodup_lenI (l:=x :: o) (m:=upto n) (List.nodup_cons.2 ⟨hne,hn⟩) (fun a ha=>by
   rcases List.mem_cons.1 ha with rfl | ha
   · exact hx
   · exact mem_upto.2 (hr a ha))
  rw [upto_length] at this;simp only [List.length_cons] at this;omega
 refine (List.perm_ext_iff_of_nodup hn ((upto_up n).imp fun h=>by omega)).2 fun a=>⟨fun ha=>mem_upto.2 (hr a ha),hsub a⟩
theorem ordOk_iff {o:List Int} {n:Nat}:OrdOk n o ↔ sortI o=upto n:=by
 constructor
 · intro h;refine List.Perm.eq_of_pairwise (le:=fun a b:Int=>a ≤ b) (fun a b _ _ h1 h2=>by omega) (sorted_sortI o) ((upto_up n).imp fun h=>by omega) ((perm_sortI o).trans (full_perm h.1 h.nodup h.rng))
 · intro h;have hp:o.Perm (upto n):=h ▸ (perm_sortI o).symm;have hl:o.length=n:=by rw [hp.length_eq,upto_length]
   have hn:o.Nodup:=hp.nodup_iff.2 ((upto_up n).imp fun h=>by omega);refine ⟨hl,fun k x hk hx=>⟨?_,fun m y hm hy e=>?_⟩⟩
   · have:=mem_upto.1 (hp.mem_iff.1 (List.mem_of_getElem? hx));omega
   · obtain ⟨l1,e1⟩:=List.getElem?_eq_some_iff.1 hx;obtain ⟨l2,e2⟩:=List.getElem?_eq_some_iff.1 hy;rw [List.nodup_iff_pairwise_ne,List.pairwise_iff_getElem] at hn;exact hn m k l2 l1 hm (by rw [e1,e2];exact e)
theorem frameErr_ok {z o:List Int} (h:frameErr z o=0):FrOk z o ∧ z.foldl (· * ·) 1 ≤ 2000:=by
 unfold frameErr at h
 split at h
 · cases h
 · split at h
   · cases h
   · split at h
     · cases h
     · split at h
       · rename_i h1 h2 h3 h4;have ho:=ordOk_iff.2 h4;have hp:o.Perm (upto z.length):=h4 ▸ (perm_sortI o).symm;refine ⟨{ few:=by omega,pos:=fun s hs=>?_,len:=ho.1,perm:=fun i hi=>hp.mem_iff.2 (mem_upto.2 (by omega)),rng:=ho.rng,nodup:=ho.nodup },by omega⟩;have h2':z.all (fun n=>decide (1 ≤ n) && decide (n ≤ 12))=true:=by simpa using h2
         have:=List.all_eq_true.1 h2' s hs
         simpa using this
       · cases h
end Hp
namespace Hp
end Hp
namespace Nd
open Hp
structure Bnd (d:Dia) (t:List Int × List Int):Prop where
 n1:t.1.Nodup
 n2:t.2.Nodup
 b1:∀ x ∈ t.1,0 ≤ x ∧ x < d.nodes.length
 b2:∀ x ∈ t.2,0 ≤ x ∧ x < d.ends.length
theorem Bnd.len {d:Dia} {t:List Int × List Int} (h:Bnd d t):t.1.length ≤ d.nodes.length ∧ t.2.length ≤ d.ends.length:=by
 have h1:=nodup_lenI (m:=upto d.nodes.length) h.n1 fun a ha=>mem_upto.2 (h.b1 a ha)
 have h2:=nodup_lenI (m:=upto d.ends.length) h.n2 fun a ha=>mem_upto.2 (h.b2 a ha)
 rw [upto_len] at h1 h2
 exact ⟨h1,h2⟩
theorem Bnd.start (d:Dia):Bnd d ([],[]):=⟨by simp,by simp,by simp,by simp⟩
theorem fold_bnd {d:Dia} {g:List Int × List Int → Int → List Int × List Int} {j:Int}:∀ (l:List Int) (t:List Int × List Int),(∀ k ∈ l,k < j ∧ ∀ t,Bnd d t → Bnd d (g t k) ∧ ∀ x ∈ (g t k).1,x ∈ t.1 ∨ x ≤ k) → Bnd d t → Bnd d (l.foldl g t) ∧ ∀ x ∈ (l.foldl g t).1,x ∈ t.1 ∨ x < j
 | [],t,_,h=>⟨h,fun x hx=>.inl hx⟩
 | k :: r,t,hl,h=>by
  have hk:=hl k (by simp);obtain ⟨h1,h2⟩:=hk.2 t h;obtain ⟨h3,h4⟩:=fold_bnd r (g t k) (fun k hk=>hl k (by simp [hk])) h1;refine ⟨h3,fun x hx=>?_⟩
  rcases h4 x hx with h5 | h5
  · rcases h2 x h5 with h6 | h6
    · exact .inl h6
    · exact .inr (by have:=hk.1;omega)
  · exact .inr h5
theorem srch_bnd {d:Dia} (hL:d.Low):∀ (n:Nat) (r:Int) (t:List Int × List Int),d.Ref r n → n ≤ d.nodes.length → Bnd d t → Bnd d (d.srch (n+1) r t) ∧ ∀ x ∈ (d.srch (n+1) r t).1,x ∈ t.1 ∨ x ≤ r
 | n,r,t,hR,hn,h=>by
  rw [Dia.srch]
  by_cases hr:r < 0
  · rw [if_pos hr]
    by_cases hm : -1-r ∈ t.2
    · rw [if_pos hm];exact ⟨h,fun x hx=>.inl hx⟩
    · rw [if_neg hm];refine ⟨⟨h.n1,nodup_snoc h.n2 hm,h.b1,fun x hx=>?_⟩,fun x hx=>.inl hx⟩
      rcases List.mem_append.1 hx with hx | hx
      · exact h.b2 x hx
      · simp only [List.mem_singleton] at hx;have:=hR.2;omega
  · rw [if_neg hr]
    by_cases hm:r ∈ t.1
    · rw [if_pos hm];exact ⟨h,fun x hx=>.inl hx⟩
    · rw [if_neg hm];have hr1:=hR.1;obtain ⟨n',rfl⟩:∃ n',n=n'+1:=⟨n-1,by omega⟩
      have hk:∀ k ∈ (d.nodeAt r.toNat).2,d.Ref k n' ∧ k < r:=by
       intro k hk;have:=hL r.toNat (by omega) k hk;exact ⟨⟨by have:=this.1;omega,this.2⟩,by have:=this.1;omega⟩
      obtain ⟨h1,h2⟩:=fold_bnd (d:=d) (j:=r) (g:=fun t k=>d.srch (n'+1) k t) (d.nodeAt r.toNat).2 t (fun k hk'=>⟨(hk k hk').2,fun t ht=>srch_bnd hL n' k t (hk k hk').1 (by omega) ht⟩) h;refine ⟨⟨nodup_snoc h1.n1 fun hx=>?_,h1.n2,fun x hx=>?_,h1.b2⟩,fun x hx=>?_⟩
      · rcases h2 r hx with h3 | h3
        · exact hm h3
        · omega
      · rcases List.mem_append.1 hx with hx | hx
        · exact h1.b1 x hx
        · simp only [List.mem_singleton] at hx;omega
      · rcases List.mem_append.1 hx with hx | hx
        · rcases h2 x hx with h3 | h3
          · exact .inl h3
          · exact .inr (by omega)
        · simp only [List.mem_singleton] at hx;exact .inr (by omega)
end Nd
end Go.Proofs.YtdokmmhjmclmnaaGreat
