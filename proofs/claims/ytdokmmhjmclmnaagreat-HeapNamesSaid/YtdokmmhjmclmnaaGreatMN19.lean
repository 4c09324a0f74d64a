/-
  Part 19 of a proof: PL13 HFn51 HFn52 PL33 PN1 PL34 PL18 PL19 PN2 PL31.
-/
import Derived.DeepKeys4
import Derived.Maps.Own
import Derived.Test.YtdokmmhjmclmnaaGreatMN04
import Derived.Test.YtdokmmhjmclmnaaGreatMN06
import Derived.Test.YtdokmmhjmclmnaaGreatMN10
import Derived.Test.YtdokmmhjmclmnaaGreatMN11
import Derived.Test.YtdokmmhjmclmnaaGreatMN16
import Derived.Test.YtdokmmhjmclmnaaGreatMN18
set_option linter.unusedSimpArgs false
set_option linter.unusedVariables false
set_option linter.unusedSectionVars false
set_option linter.unnecessarySimpa false
namespace Go.Proofs.YtdokmmhjmclmnaaGreat
namespace Hp
theorem isEnd_of {fault:Int} (h0:0 ≤ fault) (h4:fault ≤ 4):isEnd (20+fault)=true:=by
 simp [isEnd,within]
 omega
theorem new_end {S:Hs} {fault n:Int} (h0:0 ≤ fault) (h4:fault ≤ 4) (hn:fault > 0 → n=0) (h1 : -9999 ≤ n) (h2:n ≤ 9999):New S (20+fault) [n]:=by
 have he:=isEnd_of h0 h4
 refine ⟨by simp [okTag,he],by simp [wz,he],fun _ x hx=>?_,fun h=>?_,fun h=>?_⟩
 · have:x=n:=by simpa using hx
   subst this;exact ⟨h1,h2,fun h=>hn (by omega)⟩
 · rw [he] at h;cases h
 · rw [he] at h;cases h
structure Grown (S S':Hs):Prop where
 sizes:S'.sizes=S.sizes
 order:S'.order=S.order
 len:S'.words.length=S.words.length
theorem Grown.refl (S:Hs):Grown S S:=⟨rfl,rfl,rfl⟩
theorem Grown.trans {A B C:Hs} (h:Grown A B) (k:Grown B C):Grown A C:=⟨k.sizes.trans h.sizes,k.order.trans h.order,k.len.trans h.len⟩
def Good (S:Hs) (B:Nat):Prop:=∃ L ch,Wf S B L ch
theorem add_good {S:Hs} {B:Nat} (h:Good S B) {t:Int} {fs:List Int} (hn:New S t fs):∃ a S',S.add t fs=some (a,S') ∧ Good S' B ∧ Grown S S':=by
 obtain ⟨L,ch,h⟩:=h
 rcases add_wf h hn with ⟨a,_,_,_,e⟩ | ⟨_,⟨_,e⟩ | ⟨P,u,Q,S',_,_,_,_,e,hp,hw⟩⟩
 · exact ⟨a,S,e,⟨L,ch,h⟩,.refl _⟩
 · exact ⟨0,S,e,⟨L,ch,h⟩,.refl _⟩
 · exact ⟨u.a,S',e,⟨_,_,hw⟩,⟨hp.sizes,hp.order,hp.len⟩⟩
theorem end_good {S:Hs} {B:Nat} (h:Good S B) {fault n:Int} (h0:0 ≤ fault):∃ r e S',S.end' fault n=some (r,e,S') ∧ Good S' B ∧ Grown S S':=by
 unfold Hs.end'
 split
 · exact ⟨0,4,S,rfl,h,.refl _⟩
 · rename_i hc;simp only [not_or,Bool.not_eq_false,within,Bool.and_eq_true,decide_eq_true_eq] at hc;obtain ⟨h1,h2,h3⟩:=hc;obtain ⟨a,S',e,hg,hr⟩:=add_good h (new_end (S:=S) (fault:=fault) (n:=n) h0 (by omega) (fun hf=>by omega) h3.1 h3.2);rw [e];simp only [Option.bind_eq_bind,Option.bind_some];unfold Hs.full;simp only
   split
   · exact ⟨_,_,S',rfl,hg,hr⟩
   · exact ⟨_,_,S',rfl,hg,hr⟩
theorem laters_total {S:Hs} {B:Nat} {L:List Tl} {ch:Nat → List Nat} (h:Wf S B L ch) (c:Int):∀ (l:List Int),(∀ x ∈ l,S.has x=true) → ∃ b,S.laters c l=some b ∧ (b=true ↔ ∀ x ∈ l,∃ k ∈ S.taken,x=(k:Int) ∧ rank S.order (c+1) < rank S.order (ow S.words k))
 | [],_=>⟨true,rfl,by simp⟩
 | x :: l,hl=>by
  obtain ⟨k,rfl,hk⟩:=has_yes (hl x (by simp));obtain ⟨b,h1,h2⟩:=laters_total h c l fun y hy=>hl y (by simp [hy])
  have ht:=h.tag_le hk;unfold Hs.laters;rw [show adr (k:Int)=some k by simp [adr]];simp only [Option.bind_eq_bind,Option.bind_some,h.tag_ hk];rw [ck_in (by omega) (by omega)];simp only [Option.bind_some]
  by_cases hr:rank S.order (ow S.words k) > rank S.order (c+1)
  · rw [if_pos hr,h1];refine ⟨b,rfl,h2.trans ⟨fun hh y hy=>?_,fun hh y hy=>hh y (by simp [hy])⟩⟩
    rcases List.mem_cons.1 hy with rfl | hy
    · exact ⟨k,hk,rfl,hr⟩
    · exact hh y hy
  · rw [if_neg hr];refine ⟨false,rfl,⟨(fun h=>by cases h),fun hh=>?_⟩⟩;obtain ⟨k',hk',e,hr'⟩:=hh (k:Int) (by simp);have:k=k':=by omega
    subst this;exact absurd hr' hr
theorem checkNode_total {S:Hs} {B:Nat} {L:List Tl} {ch:Nat → List Nat} (h:Wf S B L ch) (c:Int) (l:List Int):∃ e,S.checkNode c l=some e ∧ (e=0 → isNode S.sizes (c+1)=true ∧ l.length=wz S.sizes (c+1)-4 ∧ ∀ x ∈ l,∃ k ∈ S.taken,x=(k:Int) ∧ rank S.order (c+1) < rank S.order (ow S.words k)):=by
 unfold Hs.checkNode
 cases hw:within 0 ((S.sizes.length:Int)-1) c with
 | false=>exact ⟨3,by simp,fun h=>by cases h⟩
 | true=>
  simp only [within,Bool.and_eq_true,decide_eq_true_eq] at hw;have hc:c.toNat < S.sizes.length:=by omega
  simp only [Bool.true_eq_false,if_false];rw [rd_ow hc];simp only [Option.bind_eq_bind,Option.bind_some]
  by_cases h1:(l.length:Int) ≠ ow S.sizes c.toNat
  · exact ⟨4,by rw [if_pos h1],fun h=>by cases h⟩
  · rw [if_neg h1]
    cases hh:l.all S.has with
    | false=>exact ⟨7,by simp,fun h=>by cases h⟩
    | true=>
     simp only [Bool.true_eq_false,if_false];rw [List.all_eq_true] at hh;obtain ⟨b,e1,e2⟩:=laters_total h c l hh;rw [e1];simp only [Option.bind_some]
     cases b with
     | false=>exact ⟨2,by simp,fun h=>by cases h⟩
     | true=>
      refine ⟨0,by simp,fun _=>⟨?_, ?_,e2.1 rfl⟩⟩
      · simp [isNode,within];omega
      · have hne:isEnd (c+1)=false:=by
          have:=h.fr.few;simp [isEnd,within];omega
        have e3:S.sizes.getD (c+1-1).toNat 0=ow S.sizes c.toNat:=by
         rw [show c+1-1=c by omega];rfl
        unfold wz;rw [hne,e3];simp only [Bool.false_eq_true,if_false];omega
theorem new_node {S:Hs} {B:Nat} {L:List Tl} {ch:Nat → List Nat} (h:Wf S B L ch) {c:Int} {l:List Int} (h1:isNode S.sizes (c+1)=true) (h2:l.length=wz S.sizes (c+1)-4) (h3:∀ x ∈ l,∃ k ∈ S.taken,x=(k:Int) ∧ rank S.order (c+1) < rank S.order (ow S.words k)) (h4:Hs.alike l=false):New S (c+1) l:=by
 have hne:isEnd (c+1)=false:=by
  have:=h.fr.few;simp only [isNode,within,Bool.and_eq_true,decide_eq_true_eq] at h1;simp [isEnd,within];omega
 exact ⟨by simp [okTag,h1],h2,(fun he=>by rw [hne] at he;cases he),fun _=>h3,fun _=>h4⟩
theorem make_good {S:Hs} {B:Nat} (h:Good S B) (c:Int) (l:List Int):∃ r e S',S.make c l=some (r,e,S') ∧ Good S' B ∧ Grown S S':=by
 obtain ⟨L,ch,hw⟩:=id h
 obtain ⟨e,h1,h2⟩:=checkNode_total hw c l
 unfold Hs.make
 rw [h1]
 simp only [Option.bind_eq_bind,Option.bind_some]
 by_cases he:e ≠ 0
 · rw [if_pos he];exact ⟨_,_,S,rfl,h,.refl _⟩
 · rw [if_neg he];obtain ⟨k1,k2,k3⟩:=h2 (by omega);have hwz:=wz_ok hw.fr.toFr (t:=c+1) (by simp [okTag,k1])
   cases ha:Hs.alike l with
   | true=>
    simp only [if_true]
    cases l with
    | nil=>simp at k2;omega
    | cons x l=>exact ⟨x,0,S,rfl,h,.refl _⟩
   | false=>
    simp only [Bool.false_eq_true,if_false];obtain ⟨a,S',e,hg,hr⟩:=add_good h (new_node hw k1 k2 k3 ha);rw [e];simp only [Option.bind_some];unfold Hs.full;simp only
    split
    · exact ⟨_,_,S',rfl,hg,hr⟩
    · exact ⟨_,_,S',rfl,hg,hr⟩
theorem new_wf {z o:List Int} (hz:FrOk z o) {n:Nat} (h1:20 ≤ n) (h2:n ≤ 100000):∃ S,Hp.new z o n=some S ∧ S.sizes=z ∧ S.order=o ∧ S.words.length=n ∧ Wf S 0 [⟨17,n-17,true⟩] (fun _=>[]):=by
 obtain ⟨W1,e1,l1,g1⟩:=wr_ow (W:=List.replicate n (0:Int)) (i:=16) 17 (by simp;omega)
 rw [List.length_replicate] at l1
 obtain ⟨W2,e2,l2,g2⟩:=wr_ow (W:=W1) (i:=18) ((n:Int)-17) (by omega)
 have G:∀ j,ow W2 j=if j=18 then (n:Int)-17 else if j=16 then 17 else 0:=fun j=>by rw [g2,g1,ow_rep]
 refine ⟨⟨z,o,W2,[]⟩, ?_,rfl,rfl,l2.trans l1, ?_⟩
 · unfold Hp.new;rw [e1];simp only [Option.bind_eq_bind,Option.bind_some];rw [e2];rfl
 · exact
   { fr:=hz
     lo:=by show 20 ≤ W2.length;omega
     hi:=by show W2.length ≤ 100000;omega
     bd:=by omega
     parts:=by
      show Parts (ow W2) z _ W2.length;refine ⟨⟨rfl,by show 3 ≤ n-17;omega, ?_⟩,⟨?_, ?_⟩,trivial,fun t ht=>?_⟩
      · show 17+(n-17)=W2.length;omega
      · rw [G];rfl
      · show ow W2 (17+2)=0;rw [G];rfl
      · have:t=⟨17,n-17,true⟩:=by simpa using ht
        subst this;unfold PartOk;simp only [if_true];refine ⟨by rw [G];rfl, ?_,fun j h1 h2=>?_⟩
        · show ow W2 18=((n-17:Nat):Int);rw [G,if_pos rfl];omega
        · rw [G,if_neg (by omega),if_neg (by omega)]
     taken:=rfl
     chains:=⟨fun c hc=>by show ow W2 c=0;rw [G,if_neg (by omega),if_neg (by omega)],by simp,by simp⟩
     cells:=⟨by simp,by simp,by simp,by simp,by simp⟩
     uses:=fun a ha=>by cases ha
     holds:=fun a ha=>by cases ha }
end Hp
open Go.RowKit Go.Maps Go.Sort Go.Shelf
structure SeenInv (T D:List Nat) (left:Lit → Bool):Prop where
 nd:D.Nodup
 sub:∀ x ∈ D,x ∈ T
 all:∀ x ∈ T,left (.int .i64 (x:Int))=false → x ∈ D
 out:∀ x ∈ D,left (.int .i64 (x:Int))=false
theorem SeenInv.nil (T:List Nat):SeenInv T [] (Maps.has (mapOf T)) where
 nd:=List.Pairwise.nil
 sub:=by simp
 all x hx h:=by
  rw [has_mapOf,hasLit_int] at h;have:T.contains x=true:=by simpa using hx
  rw [this] at h
  cases h
 out:=by simp
theorem SeenInv.step {T D:List Nat} {left:Lit → Bool} {x:Nat} (h:SeenInv T D left) (hx:x ∈ T) (hl:left (.int .i64 (x:Int))=true):SeenInv T (D ++ [x]) (fun z=>left z && !z.sameKey (.int .i64 x)):=by
 have hn:x ∉ D:=fun hm=>by
  have:=h.out x hm;rw [hl] at this
  cases this
 refine ⟨List.nodup_append.2 ⟨h.nd,by simp,fun a ha b hb e=>?_⟩,fun y hy=>?_,fun y hy hh=>?_,fun y hy=>?_⟩
 · have:b=x:=by simpa using hb
   subst this e;exact hn ha
 · rcases List.mem_append.1 hy with hy | hy
   · exact h.sub y hy
   · have:y=x:=by simpa using hy
     subst this;exact hx
 · rcases left_false hh with h1 | rfl
   · simp [h.all y hy h1]
   · simp
 · rcases List.mem_append.1 hy with hy | hy
   · show (left (.int .i64 (y:Int)) && _)=false;rw [h.out y hy];rfl
   · have:y=x:=by simpa using hy
     subst this;show (left (.int .i64 (y:Int)) && !(Lit.int .i64 (y:Int)).sameKey (.int .i64 y))=false;simp [Lit.sameKey]
theorem SeenInv.perm {T D:List Nat} {left:Lit → Bool} (h:SeenInv T D left) (hT:T.Nodup) (hl:∀ kl,left kl=false):D.Perm T:=by
 rw [List.perm_ext_iff_of_nodup h.nd hT]
 exact fun x=>⟨h.sub x,fun hx=>h.all x hx (hl _)⟩
def CountsAre (S:Hp.Hs) (D:List Nat) (part:List Int) (M:List (Nat × Int)):Prop:=∀ y:Nat,(getI y M).getD 0=((Hp.cnt (Hp.ow S.words) S.sizes y D+part.count (y:Int):Nat):Int)
theorem CountsAre.put {S:Hp.Hs} {D:List Nat} {part:List Int} {M:List (Nat × Int)} {b:Nat} (h:CountsAre S D part M) (hu:KeysUp M):CountsAre S D (part ++ [(b:Int)]) (putI b ((getI b M).getD 0+1) M):=fun y=>by
 rw [getI_put hu,List.count_append]
 by_cases e:y=b
 · subst e;rw [if_pos rfl,Option.getD_some,h y];simp;omega
 · rw [if_neg e,h y];have:List.count (y:Int) [(b:Int)]=0:=by
    rw [List.count_eq_zero];simp;omega
   rw [this];rfl
open Go.RowKit Go.Maps
theorem cellKT:Tryz.prog.keyTypeAt 3 152=true:=by kernel_rfl
theorem cellTI:Tryz.prog.tiled 3 152=true:=by kernel_rfl
theorem three_le:3+1 ≤ 10000:=Nat.le_of_ble_eq_true (by kernel_rfl)
theorem cellLaw:WideMaps.KeyLaw Tryz.prog 152:=deep_law (m:=3) three_le cellKT cellTI (by rw [Tryz.underlying152])
theorem cellKeyed:Maps.Keyed Tryz.prog 152:=Maps.Keyed.of_law cellLaw
theorem keyLits_int (d:Nat) {x:Int} (h : -9223372036854775808 ≤ x ∧ x ≤ 9223372036854775807):Tryz.prog.keyLits (d+1) 3 [.int .i64 x]=some [.int .i64 x]:=by
 unfold Program.keyLits
 rw [Tryz.underlying3]
 have wf:(Lit.int .i64 x).wf=true:=WalkArith.wf_i64 (by omega)
 simp [wf]
theorem types_le:3 ≤ Tryz.prog.types.size:=Nat.le_of_ble_eq_true (by kernel_rfl)
theorem cellsOf_cell:Tryz.prog.cellsOf 152=13:=by kernel_rfl
theorem cellsOf_arr:Tryz.prog.cellsOf 150=12:=by kernel_rfl
theorem cellsOf_int:Tryz.prog.cellsOf 3=1:=by kernel_rfl
theorem keyType_cell:Tryz.prog.keyType 152=true:=by kernel_rfl
theorem keyOf_cell {l:List Int} (hl:l.length=13) (h:∀ x ∈ l,-9223372036854775808 ≤ x ∧ x ≤ 9223372036854775807):∃ k,keyOf Tryz.prog 152 (.agg (ints l).toArray)=some k:=by
 match l,hl with
 | [a0,a1,a2,a3,a4,a5,a6,a7,a8,a9,a10,a11,a12],_=>
  obtain ⟨d,hd⟩:∃ d,Tryz.prog.types.size=d+2:=⟨Tryz.prog.types.size-2,by have:=types_le;omega⟩
  have e:∀ x ∈ [a0,a1,a2,a3,a4,a5,a6,a7,a8,a9,a10,a11,a12],∀ d,Tryz.prog.keyLits (d+1) 3 [.int .i64 x]=some [.int .i64 x]:=fun x hx d=>keyLits_int d (h x hx)
  have arr:∃ k,Tryz.prog.keyLits (d+2) 150 [.int .i64 a1,.int .i64 a2,.int .i64 a3,.int .i64 a4,.int .i64 a5,.int .i64 a6,.int .i64 a7,.int .i64 a8,.int .i64 a9,.int .i64 a10,.int .i64 a11,.int .i64 a12]=some k:=by
   unfold Program.keyLits;rw [Tryz.underlying150];simp only [cellsOf_arr,cellsOf_int];simp [List.range,List.range.loop,e a1 (by simp),e a2 (by simp),e a3 (by simp),e a4 (by simp),e a5 (by simp),e a6 (by simp),e a7 (by simp),e a8 (by simp),e a9 (by simp),e a10 (by simp),e a11 (by simp),e a12 (by simp)]
  obtain ⟨k,hk⟩:=arr;have top:∃ k,Tryz.prog.keyLits (d+3) 152 [.int .i64 a0,.int .i64 a1,.int .i64 a2,.int .i64 a3,.int .i64 a4,.int .i64 a5,.int .i64 a6,.int .i64 a7,.int .i64 a8,.int .i64 a9,.int .i64 a10,.int .i64 a11,.int .i64 a12]=some k:=by
   unfold Program.keyLits;rw [Tryz.underlying152];simp only [cellsOf_cell];simp [cellsOf_arr,cellsOf_int,e a0 (by simp),hk]
  obtain ⟨k',hk'⟩:=top;unfold keyOf;rw [Tryz.underlying152];simp only;have hf:(Value.agg (ints [a0,a1,a2,a3,a4,a5,a6,a7,a8,a9,a10,a11,a12]).toArray).formed Tryz.prog 152=true:=by
   simp [Value.formed,Tryz.underlying152,cellsOf_cell,ints]
  rw [keyType_cell,hf,hd];simp only [Bool.and_self,if_true];rw [show (Value.agg (ints [a0,a1,a2,a3,a4,a5,a6,a7,a8,a9,a10,a11,a12]).toArray).cells.toList=[.int .i64 a0,.int .i64 a1,.int .i64 a2,.int .i64 a3,.int .i64 a4,.int .i64 a5,.int .i64 a6,.int .i64 a7,.int .i64 a8,.int .i64 a9,.int .i64 a10,.int .i64 a11,.int .i64 a12] from rfl,hk'];exact ⟨_,rfl⟩
def KeysAt (w:World) (g:Nat) (Ks:List (List Int)):Prop:=∃ D:DataW Unit,w.ownsMap Tryz.prog 152 (plainElem (H:=Unit) Tryz.prog 4) g Ks.length D ∧ ∀ (l:List Int) (kl:Lit),l ∉ Ks → keyOf Tryz.prog 152 (.agg (ints l).toArray)=some kl → ∀ z,D.atKey kl z=z
theorem ints_inj:∀ {a b:List Int},ints a=ints b → a=b
 | [],[],_=>rfl
 | [],_ :: _,h=>by simp [ints] at h
 | _ :: _,[],h=>by simp [ints] at h
 | x :: a,y :: b,h=>by
  simp only [ints,List.map_cons,List.cons.injEq] at h;obtain ⟨h1,h2⟩:=h;injection h1 with _ h1
  rw [h1,ints_inj h2]
namespace KeysAt
variable {w w':World} {g:Nat} {Ks:List (List Int)}
theorem made (w:World):KeysAt (w.alloc (.map #[] 0)) w.heap.size []:=
 ⟨_,World.ownsMap_made w Tryz.prog 152 (plainElem (H:=Unit) Tryz.prog 4),fun _ _ _ _ _=>rfl⟩
theorem lt (h:KeysAt w g Ks):g < w.heap.size:=by
 obtain ⟨D,h1,_⟩:=h
 exact h1.lt
theorem ofBlock (h:KeysAt w g Ks) (e:w'.heap[g]? = w.heap[g]?):KeysAt w' g Ks:=by
 obtain ⟨D,⟨es,clock,hb,r⟩,h2⟩:=h
 exact ⟨D,⟨es,clock,e.trans hb,r⟩,h2⟩
theorem but (h:KeysAt w g Ks) {l:List Nat} (k:But l w w') (hg:g ∉ l):KeysAt w' g Ks:=h.ofBlock (k.block g h.lt hg)
theorem ext (h:KeysAt w g Ks) (k:Ext w w'):KeysAt w' g Ks:=h.ofBlock (k.block g h.lt)
theorem look (h:KeysAt w g Ks) {l:List Int} (hl:l.length=13) (hb:∀ x ∈ l,-9223372036854775808 ≤ x ∧ x ≤ 9223372036854775807) (hn:l ∉ Ks):(Instr.lookup 149 (.map (some g)) (.agg (ints l).toArray) false).run Tryz.prog w = .ok (.bool false) w:=by
 obtain ⟨D,h1,h2⟩:=h
 obtain ⟨kl,hk⟩:=keyOf_cell hl hb
 obtain ⟨v,ps,hrun,hv⟩:=h1.lookup cellKeyed Tryz.underlying149 (Tryz.zeroValue4 w) (plainElem_bool Tryz.underlying4 false) hk
 rw [hrun]
 rw [h2 l kl hn hk] at hv
 rw [plainElem_bool_inv Tryz.underlying4 hv]
theorem put (h:KeysAt w g Ks) {l:List Int} (hl:l.length=13) (hb:∀ x ∈ l,-9223372036854775808 ≤ x ∧ x ≤ 9223372036854775807) (hn:Ks.length < maxLen):∃ w',(Instr.mapUpdate 149 (.map (some g)) (.agg (ints l).toArray) (.bool true)).run Tryz.prog w = .ok () w' ∧ KeysAt w' g (l :: Ks) ∧ w.mapTurned w' g:=by
 obtain ⟨D,h1,h2⟩:=h
 obtain ⟨kl,hk⟩:=keyOf_cell hl hb
 obtain ⟨w',hrun,ho,ht⟩:=h1.store cellKeyed Tryz.underlying149 hn hk (plainElem_bool Tryz.underlying4 true)
 refine ⟨w',hrun,⟨_,ho,fun l' kl' hm hk' z=>?_⟩,ht⟩
 simp only [List.mem_cons,not_or] at hm
 rw [atKey_put_other (fun e=>hm.1 ?_)]
 · exact h2 l' kl' hm.2 hk' z
 · subst e;have h3:=Value.agg.inj (cellKeyed.inj hk' hk);exact ints_inj (List.toArray_inj h3)
end KeysAt
namespace Hp
structure Dg where
 known:List (Nat × Int)
 ends:List (Int × Int)
 nodes:List (Int × List Int)
def refs (go:Nat → Dg → Option (Int × Dg)):List Nat → Dg → Option (List Int × Dg)
 | [],D=>some ([],D)
 | k :: r,D=>do
  let (x,D) ← go k D
  let (xs,D) ← refs go r D
  some (x :: xs,D)
namespace Hs
def from' (S:Hs):Nat → Nat → Dg → Option (Int × Dg)
 | 0,_,_=>none
 | n+1,a,D=>
  match getI a D.known with
  | some x=>some (x,D)
  | none=>
   let t:=ow S.words a
   if isEnd t then
    let x:Int:=-((D.ends.length:Int)+1)
    some (x,{ D with ends:=D.ends ++ [(t-20,ow S.words (a+4))],known:=putI a x D.known })
   else do
    let (xs,D) ← refs (S.from' n) ((fz (ow S.words) S.sizes a).map Int.toNat) D
    some ((D.nodes.length:Int),{ D with nodes:=D.nodes ++ [(t-1,xs)],known:=putI a D.nodes.length D.known })
def diagram (S:Hs) (a:Nat):Option (Int × Dg):=S.from' (S.order.length+2) a ⟨[],[],[]⟩
end Hs
structure Also (T:List Nat) (m:Nat → Nat) (D D':Dg):Prop where
 ends:D'.ends=D.ends
 nodes:D'.nodes=D.nodes
 up:KeysUp D.known
 up':KeysUp D'.known
 known:∀ a ∈ T,getI (m a) D'.known=getI a D.known
theorem Also.put {T:List Nat} {m:Nat → Nat} {D D':Dg} (h:Also T m D D') (hi:∀ a ∈ T,∀ b ∈ T,m a=m b → a=b) {a:Nat} (ha:a ∈ T) (x:Int) {E:List (Int × Int)} {N:List (Int × List Int)} :
    Also T m ⟨putI a x D.known,E,N⟩ ⟨putI (m a) x D'.known,E,N⟩:=by
  refine ⟨rfl,rfl,keysUp_put h.up,keysUp_put h.up',fun b hb=>?_⟩;show getI (m b) (putI (m a) x D'.known)=getI b (putI a x D.known);rw [getI_put h.up',getI_put h.up,h.known b hb]
  by_cases e:b=a
  · subst e;simp
  · rw [if_neg e,if_neg (fun e'=>e (hi b hb a ha e'))]
structure DgOk (S:Hs) (D:Dg):Prop where
 up:KeysUp D.known
 keys:∀ p ∈ D.known,p.1 ∈ S.taken
 many:D.ends.length+D.nodes.length=D.known.length
 refs:∀ p ∈ D.known,-(D.ends.length:Int) ≤ p.2 ∧ p.2 < D.nodes.length
 kids:∀ q ∈ D.nodes,∀ x ∈ q.2,-(D.ends.length:Int) ≤ x ∧ x < D.nodes.length
def DgLe (D D1:Dg):Prop:=D.ends <+: D1.ends ∧ D.nodes <+: D1.nodes
theorem DgLe.refl (D:Dg):DgLe D D:=⟨List.prefix_refl _,List.prefix_refl _⟩
theorem DgLe.trans {D D1 D2:Dg} (h:DgLe D D1) (k:DgLe D1 D2):DgLe D D2:=⟨h.1.trans k.1,h.2.trans k.2⟩
theorem DgLe.le {D D1:Dg} (h:DgLe D D1):D.ends.length ≤ D1.ends.length ∧ D.nodes.length ≤ D1.nodes.length:=⟨h.1.length_le,h.2.length_le⟩
theorem putI_len {k:Nat} {x:Int}:∀ {M:List (Nat × Int)},KeysUp M → getI k M=none → (putI k x M).length=M.length+1
 | [],_,_=>rfl
 | (j,y) :: r,hu,h=>by
  obtain ⟨h1,h2⟩:=List.pairwise_cons.1 hu;unfold getI at h
  by_cases e:j=k
  · rw [if_pos e] at h
    cases h
  · rw [if_neg e] at h;unfold putI
    split
    · simp
    · split
      · rename_i e';exact absurd e'.symm e
      · have:=putI_len h2 h (x:=x);simp [this]
theorem mem_putI {k:Nat} {x:Int}:∀ {M:List (Nat × Int)} {p:Nat × Int},p ∈ putI k x M → p=(k,x) ∨ p ∈ M
 | [],p,h=>by
  left
  simpa [putI] using h
 | (j,y) :: r,p,h=>by
  unfold putI at h
  split at h
  · rcases List.mem_cons.1 h with h | h
    · exact .inl h
    · exact .inr h
  · split at h
    · rcases List.mem_cons.1 h with h | h
      · exact .inl h
      · exact .inr (by simp [h])
    · rcases List.mem_cons.1 h with h | h
      · exact .inr (by simp [h])
      · rcases mem_putI h with h | h
        · exact .inl h
        · exact .inr (by simp [h])
theorem getI_in {k:Nat} {x:Int}:∀ {M:List (Nat × Int)},getI k M=some x → (k,x) ∈ M
 | [],h=>by cases h
 | (j,y) :: r,h=>by
  unfold getI at h
  split at h
  · rename_i e;subst e
    cases h
    simp
  · simp [getI_in h]
theorem DgOk.end_ {S:Hs} {D:Dg} (h:DgOk S D) {a:Nat} (ha:a ∈ S.taken) (hk:getI a D.known=none) (v:Int × Int) :
    DgOk S ⟨putI a (-((D.ends.length:Int)+1)) D.known,D.ends ++ [v],D.nodes⟩:=by
  refine ⟨keysUp_put h.up,fun p hp=>?_, ?_,fun p hp=>?_,fun q hq x hx=>?_⟩
  · rcases mem_putI hp with rfl | hp
    · exact ha
    · exact h.keys p hp
  · rw [putI_len h.up hk,← h.many];simp;omega
  · simp only [List.length_append,List.length_cons,List.length_nil]
    rcases mem_putI hp with rfl | hp
    · simp only;omega
    · have:=h.refs p hp;omega
  · have:=h.kids q hq x hx;simp only [List.length_append,List.length_cons,List.length_nil];omega
theorem DgOk.node_ {S:Hs} {D:Dg} (h:DgOk S D) {a:Nat} (ha:a ∈ S.taken) (hk:getI a D.known=none) (t:Int) {xs:List Int} (hx:∀ x ∈ xs,-(D.ends.length:Int) ≤ x ∧ x < D.nodes.length) :
    DgOk S ⟨putI a D.nodes.length D.known,D.ends,D.nodes ++ [(t,xs)]⟩:=by
  refine ⟨keysUp_put h.up,fun p hp=>?_, ?_,fun p hp=>?_,fun q hq x hx'=>?_⟩
  · rcases mem_putI hp with rfl | hp
    · exact ha
    · exact h.keys p hp
  · rw [putI_len h.up hk,← h.many];simp;omega
  · simp only [List.length_append,List.length_cons,List.length_nil]
    rcases mem_putI hp with rfl | hp
    · simp only;omega
    · have:=h.refs p hp;omega
  · simp only [List.length_append,List.length_cons,List.length_nil]
    rcases List.mem_append.1 hq with hq | hq
    · have:=h.kids q hq x hx';omega
    · simp only [List.mem_singleton] at hq;subst hq;have:=hx x hx';omega
theorem known_few {S:Hs} {D:Dg} {n:Nat} (h:DgOk S D) (hb:∀ a ∈ S.taken,a < n):D.known.length ≤ n:=by
 have h1:(D.known.map Prod.fst).Pairwise (· < ·):=by
  rw [List.pairwise_map];exact h.up
 have:=sorted_len h1 (n:=n) fun x hx=>by
  obtain ⟨p,hp,rfl⟩:=List.mem_map.1 hx;exact hb _ (h.keys p hp)
 simpa using this
def rk (S:Hs) (a:Nat):Int:=rank S.order (ow S.words a)
structure FromTo (S:Hs) (a:Nat) (D:Dg) (x:Int) (D1:Dg):Prop where
 ok:DgOk S D1
 le:DgLe D D1
 lo : -(D1.ends.length:Int) ≤ x
 hi:x < D1.nodes.length
 old:∀ b,(getI b D1.known).isSome=true → (getI b D.known).isSome=true ∨ rk S a ≤ rk S b
theorem refs_total {S:Hs} {f:Nat → Dg → Option (Int × Dg)} {r:Int}:∀ (l:List Nat) (D:Dg),(∀ k ∈ l,k ∈ S.taken ∧ r < rk S k) → (∀ k ∈ l,∀ D,DgOk S D → ∃ x D1,f k D=some (x,D1) ∧ FromTo S k D x D1) → DgOk S D →
    ∃ xs D1,refs f l D=some (xs,D1) ∧ xs.length=l.length ∧ DgOk S D1 ∧ DgLe D D1 ∧ (∀ x ∈ xs,-(D1.ends.length:Int) ≤ x ∧ x < D1.nodes.length) ∧ ∀ b,(getI b D1.known).isSome=true → (getI b D.known).isSome=true ∨ r < rk S b
  | [],D,_,_,h=>⟨[],D,rfl,rfl,h,DgLe.refl D,by simp,fun b hb=>.inl hb⟩
  | k :: l,D,hl,hf,h=>by
   obtain ⟨x,D1,e1,h1⟩:=hf k (by simp) D h;obtain ⟨xs,D2,e2,q0,q1,q2,q3,q4⟩:=refs_total l D1 (fun k hk=>hl k (by simp [hk])) (fun k hk=>hf k (by simp [hk])) h1.ok;have hle:=q2.le;refine ⟨x :: xs,D2,by simp [refs,e1,e2],by simp [q0],q1,h1.le.trans q2,fun y hy=>?_,fun b hb=>?_⟩
   · rcases List.mem_cons.1 hy with rfl | hy
     · have:=h1.lo;have:=h1.hi;omega
     · exact q3 y hy
   · rcases q4 b hb with hb | hb
     · rcases h1.old b hb with hb | hb
       · exact .inl hb
       · have:=(hl k (by simp)).2;exact .inr (by omega)
     · exact .inr hb
theorem index_lo (l:List Int) (x:Int) : -1 ≤ index l x:=by
 unfold index
 split <;> omega
theorem rank_lo (o:List Int) (t:Int) : -1 ≤ rank o t:=by
 unfold rank
 split
 · omega
 · exact index_lo _ _
theorem rank_hi {S:Hs} {B:Nat} {L:List Tl} {ch:Nat → List Nat} (_:Wf S B L ch) {a:Nat} (_:a ∈ S.taken):rk S a ≤ S.order.length:=by
 unfold rk rank
 split
 · omega
 · unfold index
   split
   · rename_i i hi;have:=(List.findIdx?_eq_some_iff_getElem.1 hi).1;omega
   · omega
theorem isSome_putI {a b:Nat} {x:Int} {M:List (Nat × Int)} (hM:KeysUp M) (h:(getI b (putI a x M)).isSome=true):b=a ∨ (getI b M).isSome=true:=by
 rw [getI_put hM] at h
 by_cases e:b=a
 · exact .inl e
 · rw [if_neg e] at h;exact .inr h
theorem Wf.kid_in {S:Hs} {B:Nat} {L:List Tl} {ch:Nat → List Nat} (h:Wf S B L ch) {a:Nat} (ha:a ∈ S.taken) (he:isEnd (ow S.words a)=false):∀ k ∈ (fz (ow S.words) S.sizes a).map Int.toNat,k ∈ S.taken ∧ rk S a < rk S k:=by
 intro k hk
 obtain ⟨x,hx,rfl⟩:=List.mem_map.1 hk
 obtain ⟨b,hb,rfl,hr⟩:=h.cells.kids a ha x (by simpa [kz,he] using hx)
 exact ⟨by simpa using hb,by simpa [rk] using hr⟩
theorem from_total {S:Hs} {B:Nat} {L:List Tl} {ch:Nat → List Nat} (h:Wf S B L ch):∀ (n:Nat) (a:Nat),a ∈ S.taken → (S.order.length:Int)-rk S a < n → ∀ D,DgOk S D → ∃ x D1,S.from' n a D=some (x,D1) ∧ FromTo S a D x D1
 | 0,a,ha,hn,D,hD=>by
  exfalso;have:rk S a ≤ S.order.length:=rank_hi h ha;omega
 | n+1,a,ha,hn,D,hD=>by
  unfold Hs.from'
  cases hk:getI a D.known with
  | some y=>
   have:=hD.refs _ (getI_in hk);exact ⟨y,D,rfl,hD,DgLe.refl D,this.1,this.2,fun b hb=>.inl hb⟩
  | none=>
   simp only
   cases he:isEnd (ow S.words a) with
   | true=>
    simp only [if_true];refine ⟨_,_,rfl,hD.end_ ha hk _,⟨List.prefix_append _ _,List.prefix_refl _⟩,by simp,by simp;omega,fun b hb=>?_⟩
    rcases isSome_putI hD.up hb with rfl | hb
    · exact .inr (Int.le_refl _)
    · exact .inl hb
   | false=>
    simp only [Bool.false_eq_true,if_false];have hkid:=h.kid_in ha he;obtain ⟨xs,D1,e1,q0,q1,q2,q3,q4⟩:=refs_total (S:=S) (f:=S.from' n) (r:=rk S a) _ D hkid (fun k hk D hD=>from_total h n k (hkid k hk).1 (by have:=(hkid k hk).2;omega) D hD) hD;have hn1:getI a D1.known=none:=by
     cases hq:getI a D1.known with
     | none=>rfl
     | some y=>
      rcases q4 a (by rw [hq];rfl) with h1 | h1
      · rw [hk] at h1
        cases h1
      · omega
    simp only [Option.bind_eq_bind,e1,Option.bind_some];refine ⟨_,_,rfl,q1.node_ ha hn1 _ q3,q2.trans ⟨List.prefix_refl _,List.prefix_append _ _⟩,by simp only;omega,by simp only [List.length_append,List.length_cons,List.length_nil];omega,fun b hb=>?_⟩
    rcases isSome_putI q1.up hb with rfl | hb
    · exact .inr (Int.le_refl _)
    · rcases q4 b hb with hb | hb
      · exact .inl hb
      · exact .inr (by omega)
end Hp
namespace Nd
open Hp
structure Dia where
 sizes:List Int
 order:List Int
 ends:List (Int × Int)
 nodes:List (Int × List Int)
 root:Int
namespace Dia
def nodeAt (d:Dia) (i:Nat):Int × List Int:=d.nodes[i]?.getD (0,[])
def endAt (d:Dia) (i:Nat):Int × Int:=d.ends[i]?.getD (0,0)
def srch (d:Dia):Nat → Int → List Int × List Int → List Int × List Int
 | 0,_,t=>t
 | n+1,r,t=>
  if r < 0 then (if -1-r ∈ t.2 then t else (t.1,t.2 ++ [-1-r]))
  else if r ∈ t.1 then t
  else
   let t:=(d.nodeAt r.toNat).2.foldl (fun t k=>d.srch n k t) t
   (t.1 ++ [r],t.2)
end Dia
structure Cl where
 known:List (Nat × Int)
 ends:List (Int × Int)
 nodes:List (Int × List Int)
def mEnd (v:Int × Int) (s:Cl):Int × Cl:=
 match s.ends.idxOf? v with
 | some i=>(-1-(i:Int),s)
 | none=>(-1-(s.ends.length:Int),{ s with ends:=s.ends ++ [v] })
def flat (l:List Int):Bool:=l.all fun k=>k == l.headD 0
def mNode (q:Int × List Int) (s:Cl):Int × Cl:=
 if flat q.2 then (q.2.headD 0,s) else
 match s.nodes.idxOf? q with
 | some i=>((i:Int),s)
 | none=>((s.nodes.length:Int),{ s with nodes:=s.nodes ++ [q] })
def mapS (f:Int → Cl → Int × Cl):List Int → Cl → List Int × Cl
 | [],s=>([],s)
 | k :: r,s=>
  let p:=f k s
  let q:=mapS f r p.2
  (p.1 :: q.1,q.2)
namespace Dia
def cfrom (d:Dia):Nat → Int → Cl → Int × Cl
 | 0,r,s=>(r,s)
 | n+1,r,s=>
  if r < 0 then mEnd (d.endAt (-1-r).toNat) s else
  match getI r.toNat s.known with
  | some x=>(x,s)
  | none=>
   let p:=mapS (d.cfrom n) (d.nodeAt r.toNat).2 s
   let q:=mNode ((d.nodeAt r.toNat).1,p.1) p.2
   (q.1,{ q.2 with known:=putI r.toNat q.1 q.2.known })
def Ref (d:Dia) (r:Int) (n:Nat):Prop:=r < n ∧ -1-r < d.ends.length
def Low (d:Dia):Prop:=∀ i,i < d.nodes.length → ∀ k ∈ (d.nodeAt i).2,d.Ref k i
end Dia
def upto (n:Nat):List Int:=(List.range n).map Int.ofNat
theorem mem_upto {n:Nat} {x:Int}:x ∈ upto n ↔ 0 ≤ x ∧ x < n:=by
 unfold upto
 simp only [List.mem_map,List.mem_range]
 constructor
 · rintro ⟨i,hi,rfl⟩;simp only [Int.ofNat_eq_natCast];omega
 · intro h;exact ⟨x.toNat,by omega,by simp only [Int.ofNat_eq_natCast];omega⟩
theorem upto_succ (n:Nat):upto (n+1)=upto n ++ [(n:Int)]:=by simp [upto,List.range_succ]
theorem upto_len (n:Nat):(upto n).length=n:=by simp [upto]
theorem upto_inj {a b:Nat} (h:upto a=upto b):a=b:=by simpa [upto_len] using congrArg List.length h
theorem upto_pre {l:List Int} {a:Nat} (h:l <+: upto a):l=upto l.length ∧ l.length ≤ a:=by
 have hl:l.length ≤ a:=by simpa [upto_len] using h.length_le
 refine ⟨?_,hl⟩
 have:=List.prefix_iff_eq_take.1 h
 rw [this]
 simp only [upto,← List.map_take,List.take_range,List.length_map,List.length_range]
structure Par (d:Dia) (s:Cl) (t:List Int × List Int) (a b:Nat):Prop where
 a_le:a ≤ d.nodes.length
 b_le:b ≤ d.ends.length
 nodes:s.nodes=d.nodes.take a
 ends:s.ends=d.ends.take b
 known:∀ i,getI i s.known=if i < a then some (i:Int) else none
 up:KeysUp s.known
 t:t=(upto a,upto b)
def Fine (d:Dia) (s:Cl) (t:List Int × List Int):Prop:=(t.1 <+: upto d.nodes.length ∧ t.2 <+: upto d.ends.length) ∨ (s.nodes <+: d.nodes ∧ s.ends <+: d.ends)
def ClLe (s s':Cl):Prop:=s.nodes <+: s'.nodes ∧ s.ends <+: s'.ends
theorem ClLe.refl (s:Cl):ClLe s s:=⟨List.prefix_refl _,List.prefix_refl _⟩
theorem ClLe.trans {a b c:Cl} (h:ClLe a b) (k:ClLe b c):ClLe a c:=⟨h.1.trans k.1,h.2.trans k.2⟩
def TLe (t t':List Int × List Int):Prop:=t.1 <+: t'.1 ∧ t.2 <+: t'.2
theorem TLe.refl (s:List Int × List Int):TLe s s:=⟨List.prefix_refl _,List.prefix_refl _⟩
theorem TLe.trans {a b c:List Int × List Int} (h:TLe a b) (k:TLe b c):TLe a c:=⟨h.1.trans k.1,h.2.trans k.2⟩
theorem Fine.back {d:Dia} {s s':Cl} {t t':List Int × List Int} (h:Fine d s' t') (k:ClLe s s') (j:TLe t t'):Fine d s t:=by
 rcases h with h | h
 · exact .inl ⟨j.1.trans h.1,j.2.trans h.2⟩
 · exact .inr ⟨k.1.trans h.1,k.2.trans h.2⟩
theorem mEnd_le (v:Int × Int) (s:Cl):ClLe s (mEnd v s).2:=by
 unfold mEnd
 split
 · exact ClLe.refl _
 · exact ⟨List.prefix_refl _,List.prefix_append _ _⟩
theorem mNode_le (q:Int × List Int) (s:Cl):ClLe s (mNode q s).2:=by
 unfold mNode
 split
 · exact ClLe.refl _
 · split
   · exact ClLe.refl _
   · exact ⟨List.prefix_append _ _,List.prefix_refl _⟩
theorem mapS_le {f:Int → Cl → Int × Cl} (hf:∀ k s,ClLe s (f k s).2):∀ (l:List Int) (s:Cl),ClLe s (mapS f l s).2
 | [],s=>ClLe.refl s
 | k :: r,s=>(hf k s).trans (mapS_le hf r _)
theorem cfrom_le (d:Dia):∀ (n:Nat) (r:Int) (s:Cl),ClLe s (d.cfrom n r s).2
 | 0,_,s=>ClLe.refl s
 | n+1,r,s=>by
  unfold Dia.cfrom
  split
  · exact mEnd_le _ _
  · split
    · exact ClLe.refl _
    · exact (mapS_le (cfrom_le d n) _ _).trans (mNode_le _ _)
theorem fold_le {g:List Int × List Int → Int → List Int × List Int} (hg:∀ t k,TLe t (g t k)):∀ (l:List Int) (t:List Int × List Int),TLe t (l.foldl g t)
 | [],t=>TLe.refl t
 | k :: r,t=>(hg t k).trans (fold_le hg r _)
theorem srch_le (d:Dia):∀ (n:Nat) (r:Int) (t:List Int × List Int),TLe t (d.srch n r t)
 | 0,_,t=>TLe.refl t
 | n+1,r,t=>by
  unfold Dia.srch
  split
  · split
    · exact TLe.refl _
    · exact ⟨List.prefix_refl _,List.prefix_append _ _⟩
  · split
    · exact TLe.refl _
    · have:=fold_le (fun t k=>srch_le d n k t) (d.nodeAt r.toNat).2 t;exact ⟨this.1.trans (List.prefix_append _ _),this.2⟩
theorem nodup_inj {α:Type} {l:List α} (hn:l.Nodup) {i j:Nat} {v:α} (hi:l[i]? = some v) (hj:l[j]? = some v):i=j:=by
 have hlt:i < l.length:=by
  rcases Nat.lt_or_ge i l.length with h | h
  · exact h
  · rw [List.getElem?_eq_none h] at hi
    cases hi
 exact (List.getElem?_inj hlt hn).1 (hi.trans hj.symm)
theorem idxOf?_take {α:Type} [BEq α] [LawfulBEq α] {l:List α} (hn:l.Nodup) {b e:Nat} {v:α} (he:l[e]? = some v):(l.take b).idxOf? v=if e < b then some e else none:=by
 have key:∀ j (hj:j < (l.take b).length),(l.take b)[j]=v → j=e ∧ j < b:=by
  intro j hj e';have hj':j < b ∧ j < l.length:=by simp only [List.length_take] at hj;omega
  refine ⟨nodup_inj hn ?_ he,hj'.1⟩;rw [List.getElem?_eq_getElem hj'.2];simp only [List.getElem_take] at e';rw [e']
 split
 · rename_i h;have hlt:e < (l.take b).length:=by
    have:e < l.length:=by
     rcases Nat.lt_or_ge e l.length with h | h
     · exact h
     · rw [List.getElem?_eq_none h] at he
       cases he
    simp only [List.length_take];omega
   have hv:(l.take b)[e]=v:=by
    have:(l.take b)[e]? = some v:=by rw [List.getElem?_take_of_lt h,he]
    rw [List.getElem?_eq_getElem hlt] at this;exact Option.some.inj this
   cases hx:(l.take b).idxOf? v with
   | none=>exact absurd (hv ▸ List.getElem_mem hlt) (List.idxOf?_eq_none_iff.1 hx)
   | some i=>
    obtain ⟨hi,he',_⟩:=List.idxOf?_eq_some_iff.1 hx;rw [(key i hi he').1]
 · rename_i h;rw [List.idxOf?_eq_none_iff];intro hm;obtain ⟨j,hj,e'⟩:=List.getElem_of_mem hm;have:=key j hj e';omega
theorem take_snoc {α:Type} {l:List α} {b:Nat} {v:α} (h:l[b]? = some v):l.take b ++ [v]=l.take (b+1):=by
 rw [List.take_add_one,h];rfl
theorem pre_snoc {α:Type} {l:List α} (hn:l.Nodup) {b e:Nat} {v:α} (hb:b ≤ l.length) (he:l[e]? = some v) (h:l.take b ++ [v] <+: l):b=e:=by
 obtain ⟨r,hr⟩:=h
 refine nodup_inj hn ?_ he
 rw [← hr]
 have hl:(l.take b).length=b:=by simp only [List.length_take];omega
 rw [List.append_assoc,List.getElem?_append_right (by omega),hl]
 simp
structure Once (d:Dia):Prop where
 ends:d.ends.Nodup
 nodes:d.nodes.Nodup
 flat:∀ q ∈ d.nodes,flat q.2=false
def Step (d:Dia) (n:Nat):Prop:=∀ (r:Int) (s:Cl) (t:List Int × List Int) (a b:Nat),d.Ref r n → n ≤ d.nodes.length → Par d s t a b → Fine d (d.cfrom (n+1) r s).2 (d.srch (n+1) r t) →
 ∃ a' b',(d.cfrom (n+1) r s).1=r ∧ Par d (d.cfrom (n+1) r s).2 (d.srch (n+1) r t) a' b' ∧ a' ≤ max a (r+1).toNat
theorem step_end {d:Dia} (O:Once d) (n:Nat) {r:Int} (hr:r < 0) {s:Cl} {t:List Int × List Int} {a b:Nat} (hR : -1-r < d.ends.length) (P:Par d s t a b) (hF:Fine d (d.cfrom (n+1) r s).2 (d.srch (n+1) r t)) :
    ∃ a' b',(d.cfrom (n+1) r s).1=r ∧ Par d (d.cfrom (n+1) r s).2 (d.srch (n+1) r t) a' b' ∧ a' ≤ max a (r+1).toNat:=by
  obtain ⟨e,rfl⟩:∃ e:Nat,r = -1-(e:Int):=⟨(-1-r).toNat,by omega⟩
  have he:e < d.ends.length:=by omega
  have hv:d.ends[e]? = some (d.endAt e):=by unfold Dia.endAt;rw [List.getElem?_eq_getElem he];rfl
  have h1:(-1-(-1-(e:Int))).toNat=e:=by omega
  have h2 : -1-(-1-(e:Int))=e:=by omega
  unfold Dia.cfrom Dia.srch at hF ⊢;simp only [if_pos hr,h1,h2,Int.toNat_natCast] at hF ⊢;have hi:=idxOf?_take O.ends (b:=b) hv;unfold mEnd at hF ⊢;rw [P.ends,hi,P.t] at hF ⊢
  by_cases hb:e < b
  · have hm:(e:Int) ∈ upto b:=mem_upto.2 ⟨by omega,by omega⟩;simp only [if_pos hb,if_pos hm] at hF ⊢;refine ⟨a,b,trivial, ?_,by omega⟩;rw [← P.t];exact P
  · have hm:¬ (e:Int) ∈ upto b:=fun h=>by have:=mem_upto.1 h;omega
    have hlen:(d.ends.take b).length=b:=by have:=P.b_le;simp only [List.length_take];omega
    simp only [if_neg hb,if_neg hm,hlen] at hF ⊢;have hbe:b=e:=by
     rcases hF with h | h
     · obtain ⟨_,h3⟩:=h;have h4:=(upto_pre h3).1;have h5:upto b ++ [(e:Int)]=upto b ++ [(b:Int)]:=by
        rw [← upto_succ]
        simpa [upto_len] using h4
       have:=List.append_cancel_left h5;simp only [List.cons.injEq,and_true] at this;omega
     · exact pre_snoc O.ends P.b_le hv h.2
    subst hbe;refine ⟨a,b+1,rfl,⟨P.a_le,he,P.nodes,take_snoc hv,P.known,P.up, ?_⟩,by omega⟩;rw [upto_succ]
theorem step_kids {d:Dia} {n m:Nat} (ih:Step d n) (hn:n ≤ d.nodes.length):∀ (l:List Int) (s:Cl) (t:List Int × List Int) (a b:Nat),(∀ k ∈ l,d.Ref k n ∧ (k+1).toNat ≤ m) → Par d s t a b → a ≤ m →
    Fine d (mapS (d.cfrom (n+1)) l s).2 (l.foldl (fun t k=>d.srch (n+1) k t) t) →
    ∃ a' b',(mapS (d.cfrom (n+1)) l s).1=l ∧ Par d (mapS (d.cfrom (n+1)) l s).2 (l.foldl (fun t k=>d.srch (n+1) k t) t) a' b' ∧ a' ≤ m
  | [],s,t,a,b,_,P,ha,_=>⟨a,b,rfl,P,ha⟩
  | k :: r,s,t,a,b,hl,P,ha,hF=>by
   have hk:=hl k (by simp);have hF1:Fine d (d.cfrom (n+1) k s).2 (d.srch (n+1) k t):=by
    refine hF.back ?_ ?_
    · exact mapS_le (cfrom_le d (n+1)) r _
    · exact fold_le (fun t k=>srch_le d (n+1) k t) r _
   obtain ⟨a1,b1,e1,P1,h1⟩:=ih k s t a b hk.1 hn P hF1;obtain ⟨a2,b2,e2,P2,h2⟩:=step_kids ih hn r _ _ a1 b1 (fun k hk=>hl k (by simp [hk])) P1 (by have:=hk.2;omega) hF;exact ⟨a2,b2,by simp only [mapS,e1,e2],P2,h2⟩
theorem getI_next {K:List (Nat × Int)} (hu:KeysUp K) {a:Nat} (h:∀ i,getI i K=if i < a then some (i:Int) else none):∀ i,getI i (putI a (a:Int) K)=if i < a+1 then some (i:Int) else none:=by
 intro i
 rw [getI_put hu,h i]
 by_cases e:i=a
 · subst e;simp
 · rw [if_neg e]
   by_cases h2:i < a
   · rw [if_pos h2,if_pos (by omega)]
   · rw [if_neg h2,if_neg (by omega)]
theorem step {d:Dia} (O:Once d) (hL:d.Low):∀ n,Step d n
 | n,r,s,t,a,b,hR,hn,P,hF=>by
  by_cases hr:r < 0
  · exact step_end O n hr hR.2 P hF
  obtain ⟨i,rfl⟩:∃ i:Nat,r=(i:Int):=⟨r.toNat,by omega⟩
  have hin:i < n:=by have:=hR.1;omega
  have hi:i < d.nodes.length:=by omega
  obtain ⟨n',rfl⟩:∃ n',n=n'+1:=⟨n-1,by omega⟩
  have ih:=step O hL n';have hv:d.nodes[i]? = some (d.nodeAt i):=by unfold Dia.nodeAt;rw [List.getElem?_eq_getElem hi];rfl
  rw [Dia.cfrom,Dia.srch] at hF ⊢;simp only [if_neg hr,Int.toNat_natCast] at hF ⊢;rw [P.known i] at hF ⊢
  by_cases ha:i < a
  · have hm:(i:Int) ∈ t.1:=by rw [P.t];exact mem_upto.2 ⟨by omega,by omega⟩
    simp only [if_pos ha,if_pos hm] at hF ⊢;exact ⟨a,b,trivial,P,by omega⟩
  have hm:¬ (i:Int) ∈ t.1:=fun h=>by rw [P.t] at h;have:=mem_upto.1 h;omega
  simp only [if_neg ha,if_neg hm] at hF ⊢;have hk:∀ k ∈ (d.nodeAt i).2,d.Ref k n' ∧ (k+1).toNat ≤ i:=by
   intro k hk;have:=hL i hi k hk;exact ⟨⟨by have:=this.1;omega,this.2⟩,by have:=this.1;omega⟩
  generalize ep:mapS (d.cfrom (n'+1)) (d.nodeAt i).2 s=p at hF ⊢;generalize eu:(d.nodeAt i).2.foldl (fun t k=>d.srch (n'+1) k t) t=u at hF ⊢;have hF1:Fine d p.2 u:=by
   rcases hF with h | h
   · exact .inl ⟨(List.prefix_append _ _).trans h.1,h.2⟩
   · have:=mNode_le ((d.nodeAt i).1,p.1) p.2;exact .inr ⟨this.1.trans h.1,this.2.trans h.2⟩
  obtain ⟨a1,b1,e1,P1,h1⟩:=step_kids (m:=i) ih (by omega) (d.nodeAt i).2 s t a b hk P (by omega) (by rw [ep,eu];exact hF1);rw [ep] at e1 P1;rw [eu] at P1;have hq:((d.nodeAt i).1,p.1)=d.nodeAt i:=by rw [e1]
  rw [hq] at hF ⊢;have hfl:flat (d.nodeAt i).2=false:=O.flat _ (List.mem_of_getElem? hv);have hix:=idxOf?_take O.nodes (b:=a1) hv;rw [if_neg (by omega)] at hix;have hlen:(d.nodes.take a1).length=a1:=by have:=P1.a_le;simp only [List.length_take];omega
  unfold mNode at hF ⊢;simp only [hfl,Bool.false_eq_true,if_false,P1.nodes,hix,hlen] at hF ⊢;have hae:a1=i:=by
   rcases hF with h | h
   · have h3:=h.1;rw [P1.t] at h3;have h4:=(upto_pre h3).1;have h5:upto a1 ++ [(i:Int)]=upto a1 ++ [(a1:Int)]:=by
      rw [← upto_succ]
      simpa [upto_len] using h4
     have:=List.append_cancel_left h5;simp only [List.cons.injEq,and_true] at this;omega
   · exact pre_snoc O.nodes P1.a_le hv h.1
  subst hae;refine ⟨a1+1,b1,rfl,⟨hi,P1.b_le,take_snoc hv,P1.ends,getI_next P1.up P1.known,keysUp_put P1.up, ?_⟩,by omega⟩;rw [P1.t,upto_succ]
structure ClOk (s:Cl):Prop where
 ends:s.ends.Nodup
 nodes:s.nodes.Nodup
 flat:∀ q ∈ s.nodes,flat q.2=false
theorem nodup_snoc {α:Type} {l:List α} {v:α} (h:l.Nodup) (hv:v ∉ l):(l ++ [v]).Nodup:=by
 rw [List.nodup_append]
 refine ⟨h,by simp,fun a ha b hb e=>?_⟩
 simp only [List.mem_singleton] at hb
 exact hv (hb ▸ e ▸ ha)
theorem mEnd_ok {v:Int × Int} {s:Cl} (h:ClOk s):ClOk (mEnd v s).2:=by
 unfold mEnd
 split
 · exact h
 · rename_i e;exact ⟨nodup_snoc h.ends (List.idxOf?_eq_none_iff.1 e),h.nodes,h.flat⟩
theorem mNode_ok {q:Int × List Int} {s:Cl} (h:ClOk s):ClOk (mNode q s).2:=by
 unfold mNode
 split
 · exact h
 · rename_i hf
   split
   · exact h
   · rename_i e;refine ⟨h.ends,nodup_snoc h.nodes (List.idxOf?_eq_none_iff.1 e),fun q' hq=>?_⟩;simp only [List.mem_append,List.mem_singleton] at hq
     rcases hq with hq | rfl
     · exact h.flat _ hq
     · simpa using hf
theorem mapS_ok {f:Int → Cl → Int × Cl} (hf:∀ k s,ClOk s → ClOk (f k s).2):∀ (l:List Int) (s:Cl),ClOk s → ClOk (mapS f l s).2
 | [],_,h=>h
 | k :: r,s,h=>mapS_ok hf r _ (hf k s h)
theorem cfrom_ok (d:Dia):∀ (n:Nat) (r:Int) (s:Cl),ClOk s → ClOk (d.cfrom n r s).2
 | 0,_,_,h=>h
 | n+1,r,s,h=>by
  unfold Dia.cfrom
  split
  · exact mEnd_ok h
  · split
    · exact h
    · have:=mNode_ok (q:=((d.nodeAt r.toNat).1,(mapS (d.cfrom n) (d.nodeAt r.toNat).2 s).1)) (mapS_ok (cfrom_ok d n) (d.nodeAt r.toNat).2 s h);exact ⟨this.ends,this.nodes,this.flat⟩
namespace Dia
def clean (d:Dia):Int × Cl:=d.cfrom (d.nodes.length+1) d.root ⟨[],[],[]⟩
structure Is (d:Dia):Prop extends Once d where
 search:d.srch (d.nodes.length+1) d.root ([],[])=(upto d.nodes.length,upto d.ends.length)
end Dia
theorem clean_iff {d:Dia} (hL:d.Low) (hr:d.Ref d.root d.nodes.length):(d.clean.1=d.root ∧ d.clean.2.ends=d.ends ∧ d.clean.2.nodes=d.nodes) ↔ d.Is:=by
 have P0:Par d ⟨[],[],[]⟩ ([],[]) 0 0:=⟨by omega,by omega,by simp,by simp,fun i=>by simp [getI],List.Pairwise.nil,rfl⟩
 constructor
 · rintro ⟨_,h2,h3⟩;have hok:=cfrom_ok d (d.nodes.length+1) d.root ⟨[],[],[]⟩ ⟨by simp,by simp,by simp⟩;have O:Once d:=⟨h2 ▸ hok.ends,h3 ▸ hok.nodes,h3 ▸ hok.flat⟩
   obtain ⟨a,b,_,P,_⟩:=step O hL d.nodes.length d.root _ _ 0 0 hr (Nat.le_refl _) P0 (.inr ⟨by show d.clean.2.nodes <+: _;rw [h3];exact List.prefix_refl _,by show d.clean.2.ends <+: _;rw [h2];exact List.prefix_refl _⟩);refine ⟨O, ?_⟩;have ha:a=d.nodes.length:=by
    have:=P.nodes;rw [show (d.cfrom (d.nodes.length+1) d.root ⟨[],[],[]⟩).2.nodes=d.nodes from h3] at this;have h4:=congrArg List.length this;have:=P.a_le;simp only [List.length_take] at h4;omega
   have hb:b=d.ends.length:=by
    have:=P.ends;rw [show (d.cfrom (d.nodes.length+1) d.root ⟨[],[],[]⟩).2.ends=d.ends from h2] at this;have h4:=congrArg List.length this;have:=P.b_le;simp only [List.length_take] at h4;omega
   rw [P.t,ha,hb]
 · intro h;obtain ⟨a,b,e,P,_⟩:=step h.toOnce hL d.nodes.length d.root _ _ 0 0 hr (Nat.le_refl _) P0 (.inl (by rw [h.search];exact ⟨List.prefix_refl _,List.prefix_refl _⟩));have h4:=P.t;rw [h.search,Prod.mk.injEq] at h4;have ha:=upto_inj h4.1;have hb:=upto_inj h4.2;refine ⟨e, ?_, ?_⟩
   · show (d.cfrom _ _ _).2.ends=_;rw [P.ends,← hb,List.take_length]
   · show (d.cfrom _ _ _).2.nodes=_;rw [P.nodes,← ha,List.take_length]
end Nd
namespace Hp
end Hp
namespace Hp
def freeSum:List Tl → Nat
 | []=>0
 | t :: r=>(if t.fr then t.k else 0)+freeSum r
def freeMax:Nat → List Tl → Nat
 | m,[]=>m
 | m,t :: r=>freeMax (if t.fr then max m t.k else m) r
theorem freeSum_of:∀ L:List Tl,freeSum L=((freeOf L).map Tl.k).sum
 | []=>rfl
 | t :: r=>by
  have ih:=freeSum_of r;unfold freeSum
  cases hf:t.fr with
  | true=>simp [freeOf,hf] at ih ⊢;omega
  | false=>simp [freeOf,hf] at ih ⊢;omega
theorem freeMax_of:∀ (m:Nat) (L:List Tl),freeMax m L=(freeOf L).foldl (fun m t=>max m t.k) m
 | _,[]=>rfl
 | m,t :: r=>by
  unfold freeMax;rw [freeMax_of]
  cases hf:t.fr with
  | true=>simp [freeOf,hf]
  | false=>simp [freeOf,hf]
end Hp
namespace Hp
def OneFree (L:List Tl):Prop:=(freeOf L).length ≤ 1
theorem one_free {L:List Tl} (h:OneFree L):(freeOf L=[] ∧ freeSum L=0 ∧ freeMax 0 L=0) ∨ ∃ t ∈ L,t.fr=true ∧ freeOf L=[t] ∧ freeSum L=t.k ∧ freeMax 0 L=t.k:=by
 rw [freeSum_of,freeMax_of]
 unfold OneFree at h
 match hF:freeOf L,h with
 | [],_=>exact .inl ⟨rfl,rfl,rfl⟩
 | [t],_=>
  right;have ht:t ∈ freeOf L:=by rw [hF];simp
  obtain ⟨h1,h2⟩:=mem_freeOf.1 ht;exact ⟨t,h1,h2,rfl,by simp,by simp⟩
 | _ :: _ :: _,h=>simp at h
theorem insert_len {x:Nat}:∀ {l:List Nat},x ∉ l → (Hs.insert x l).length=l.length+1
 | [],_=>rfl
 | y :: r,h=>by
  have h1:x ≠ y:=fun e=>h (by simp [e])
  have h2:x ∉ r:=fun e=>h (by simp [e])
  unfold Hs.insert
  split
  · simp
  · simp [h1,insert_len h2]
end Hp
namespace Hp
open Nd
theorem add_one {S:Hs} {B:Nat} {L:List Tl} {ch:Nat → List Nat} (h:Wf S B L ch) (h1:OneFree L) {t:Int} {fs:List Int} (hn:New S t fs) :
    (∃ a ∈ S.taken,ow S.words a=t ∧ fz (ow S.words) S.sizes a=fs ∧ S.add t fs=some (a,S)) ∨
    (∀ a ∈ S.taken,¬ (ow S.words a=t ∧ fz (ow S.words) S.sizes a=fs)) ∧
     (((freeSum L ≠ wz S.sizes t ∧ freeSum L < wz S.sizes t+3) ∧ S.add t fs=some (0,S)) ∨
      ∃ a S' L' ch',S.add t fs=some (a,S') ∧ 17 ≤ a ∧ Put S S' t fs a ∧ Wf S' B L' ch' ∧ OneFree L' ∧ freeSum L'+wz S.sizes t=freeSum L):=by
  have hw:=wz_ok h.fr.toFr hn.tag
  rcases add_wf h hn with ⟨a,ha,q1,q2,e⟩ | ⟨hno1,⟨hno,e⟩ | ⟨P,u,Q,S',hL,hP,hu,hfit,e,hp,hw'⟩⟩
  · exact .inl ⟨a,ha,q1,q2,e⟩
  · refine .inr ⟨hno1,.inl ⟨?_,e⟩⟩
    rcases one_free h1 with ⟨_,k1,_⟩ | ⟨t',ht,hf,_,k1,_⟩
    · omega
    · have:=hno t' ht hf;unfold Fits at this;omega
  · refine .inr ⟨hno1,.inr ?_⟩;generalize wz S.sizes t=k at *;have hul:u ∈ L:=by rw [hL];simp
    have hle:=h.parts.lay.mem hul;have hfo:freeOf L=freeOf P ++ u :: freeOf Q:=by rw [hL];simp [freeOf,hu]
    unfold OneFree at h1;rw [hfo] at h1;simp only [List.length_append,List.length_cons] at h1;have hP0:freeOf P=[]:=List.length_eq_zero_iff.1 (by omega);have hQ0:freeOf Q=[]:=List.length_eq_zero_iff.1 (by omega);have hsum:freeSum L=u.k:=by rw [freeSum_of,hfo,hP0,hQ0];simp
    have hfit':u.k=k ∨ k+3 ≤ u.k:=hfit;have hfr:freeOf (P ++ ⟨u.a,k,false⟩ :: ((if u.k=k then [] else [⟨u.a+k,u.k-k,true⟩]) ++ Q))=freeOf P ++ (freeOf (if u.k=k then [] else [⟨u.a+k,u.k-k,true⟩]) ++ freeOf Q):=by simp [freeOf]
    refine ⟨u.a,S',_,_,e,by omega,hp,hw', ?_, ?_⟩
    · unfold OneFree;rw [hfr,hP0,hQ0]
      split <;> simp [freeOf]
    · rw [freeSum_of,hfr,hP0,hQ0,hsum]
      split
      · simp [freeOf];omega
      · simp [freeOf];omega
end Hp
namespace Nd
open Hp
namespace Dia
def rk (d:Dia) (k:Int):Int:=if k < 0 then d.order.length else index d.order (d.nodeAt k.toNat).1
structure Loose (d:Dia):Prop where
 fr:FrOk d.sizes d.order
 ends:∀ v ∈ d.ends,0 ≤ v.1 ∧ v.1 ≤ 4 ∧ (0 < v.1 → v.2=0) ∧ -9999 ≤ v.2 ∧ v.2 ≤ 9999
 var:∀ q ∈ d.nodes,0 ≤ q.1 ∧ q.1 < d.sizes.length ∧ q.2.length=(d.sizes.getD q.1.toNat 0).toNat
 kids:∀ i,i < d.nodes.length → ∀ k ∈ (d.nodeAt i).2,d.Ref k i ∧ index d.order (d.nodeAt i).1 < d.rk k
 root:d.Ref d.root d.nodes.length
theorem Loose.low {d:Dia} (h:d.Loose):d.Low:=fun i hi k hk=>(h.kids i hi k hk).1
end Dia
def ad (A N:List Nat) (k:Int):Nat:=if k < 0 then A.getD (-1-k).toNat 0 else N.getD k.toNat 0
def toA (A N:List Int) (k:Int):Int:=if k < 0 then A.getD (-1-k).toNat 0 else N.getD k.toNat 0
def putE:Hs → List (Int × Int) → List Int → Option (Int × List Int × Hs)
 | S,[],A=>some (0,A,S)
 | S,v :: r,A=>do
  let (a,e,S) ← S.end' v.1 v.2
  if e ≠ 0 then some (e,A,S) else putE S r (A ++ [a])
def putN (A:List Int):Hs → List (Int × List Int) → List Int → Option (Int × List Int × Hs)
 | S,[],N=>some (0,N,S)
 | S,q :: r,N=>do
  let (a,e,S) ← S.make q.1 (q.2.map (toA A N))
  if e ≠ 0 then some (e,N,S) else putN A S r (N ++ [a])
def put (d:Dia) (S:Hs):Option (Int × Int × Hs):=do
 let (e,A,S) ← putE S d.ends []
 if e ≠ 0 then some (0,e,S) else
 let (e,N,S) ← putN A S d.nodes []
 if e ≠ 0 then some (0,e,S) else some (toA A N d.root,0,S)
structure PutAt (d:Dia) (S:Hs) (A N:List Nat):Prop where
 sizes:S.sizes=d.sizes
 order:S.order=d.order
 al:A.length ≤ d.ends.length
 nl:N.length ≤ d.nodes.length
 all':N=[] ∨ A.length=d.ends.length
 ends:∀ i a,A[i]? = some a → a ∈ S.taken ∧ ow S.words a=20+(d.endAt i).1 ∧ ow S.words (a+4)=(d.endAt i).2
 nodes:∀ i a,N[i]? = some a → a ∈ S.taken ∧ ow S.words a=(d.nodeAt i).1+1 ∧ fz (ow S.words) S.sizes a=(d.nodeAt i).2.map fun k=>(ad A N k:Int)
structure PutIn (d:Dia) (B n:Nat) (S:Hs) (A N:List Nat):Prop extends PutAt d S A N where
 wf:∃ L ch,Wf S B L ch ∧ OneFree L ∧ n ≤ freeSum L+16 * (A.length+N.length)
 all:∀ a ∈ S.taken,a ∈ A ∨ a ∈ N
 many:S.taken.length=A.length+N.length
section
variable {d:Dia}
theorem endAt_mem {i:Nat} (h:i < d.ends.length):d.endAt i ∈ d.ends ∧ d.ends[i]? = some (d.endAt i):=by
 unfold Dia.endAt
 rw [List.getElem?_eq_getElem h]
 exact ⟨List.getElem_mem h,rfl⟩
theorem nodeAt_mem {i:Nat} (h:i < d.nodes.length):d.nodeAt i ∈ d.nodes ∧ d.nodes[i]? = some (d.nodeAt i):=by
 unfold Dia.nodeAt
 rw [List.getElem?_eq_getElem h]
 exact ⟨List.getElem_mem h,rfl⟩
theorem getD_of {A:List Nat} {i:Nat} (h:i < A.length):A[i]? = some (A.getD i 0):=by
 rw [List.getD_eq_getElem?_getD,List.getElem?_eq_getElem h];rfl
theorem PutAt.end_ {S:Hs} {A N:List Nat} (P:PutAt d S A N) {k:Int} (hk:k < 0) (h : -1-k < A.length):A[(-1-k).toNat]? = some (ad A N k):=by
 unfold ad
 rw [if_pos hk]
 exact getD_of (by omega)
theorem PutAt.node_ {S:Hs} {A N:List Nat} (P:PutAt d S A N) {k:Int} (hk:¬ k < 0) (h:k < N.length):N[k.toNat]? = some (ad A N k):=by
 unfold ad
 rw [if_neg hk]
 exact getD_of (by omega)
theorem isEnd_end (hL:d.Loose) {i:Nat} (h:i < d.ends.length):isEnd (20+(d.endAt i).1)=true:=by
 have:=hL.ends _ (endAt_mem h).1
 exact isEnd_of this.1 this.2.1
theorem small {z o:List Int} (h:FrOk z o):z.length ≤ 6:=h.toFr.few
theorem isEnd_node (hL:d.Loose) {i:Nat} (h:i < d.nodes.length):isEnd ((d.nodeAt i).1+1)=false:=by
 have h1:=hL.var _ (nodeAt_mem h).1
 have h2:=small hL.fr
 simp [isEnd,within]
 omega
theorem map_inj_on {α β:Type} {f:α → β}:∀ {l l':List α},(∀ x ∈ l,∀ y ∈ l',f x=f y → x=y) → l.map f=l'.map f → l=l'
 | [],[],_,_=>rfl
 | [],_ :: _,_,h=>by simp at h
 | _ :: _,[],_,h=>by simp at h
 | x :: l,y :: l',hi,h=>by
  simp only [List.map_cons,List.cons.injEq] at h;rw [hi x (by simp) y (by simp) h.1,map_inj_on (fun a ha b hb=>hi a (by simp [ha]) b (by simp [hb])) h.2]
theorem PutAt.inj {S:Hs} {A N:List Nat} (P:PutAt d S A N) (hL:d.Loose) (O:Once d) (hA:A.length=d.ends.length):∀ (n:Nat) (k k':Int),k < n → k < N.length → k' < N.length → -1-k < d.ends.length → -1-k' < d.ends.length → ad A N k=ad A N k' → k=k'
 | 0,k,k',h0,h1,h2,h3,h4,e=>by
  have hk:k < 0:=by omega
  have q1:=P.ends _ _ (P.end_ hk (by omega));have he:=isEnd_end hL (i:=(-1-k).toNat) (by omega)
  by_cases hk':k' < 0
  · have q2:=P.ends _ _ (P.end_ hk' (by omega));rw [← e] at q2;have:d.endAt (-1-k).toNat=d.endAt (-1-k').toNat:=by
     apply Prod.ext
     · have:=q1.2.1;have:=q2.2.1;omega
     · rw [← q1.2.2,← q2.2.2]
    have:=nodup_inj O.ends (endAt_mem (d:=d) (i:=(-1-k).toNat) (by omega)).2 (this ▸ (endAt_mem (d:=d) (i:=(-1-k').toNat) (by omega)).2);omega
  · have q2:=P.nodes _ _ (P.node_ hk' h2);have hn:=isEnd_node hL (i:=k'.toNat) (by have:=P.nl;omega);rw [← e,q1.2.1] at q2;rw [← q2.2.1,he] at hn
    cases hn
 | n+1,k,k',h0,h1,h2,h3,h4,e=>by
  by_cases hk:k < 0
  · exact PutAt.inj P hL O hA 0 k k' (by omega) h1 h2 h3 h4 e
  have q1:=P.nodes _ _ (P.node_ hk h1);have hn:=isEnd_node hL (i:=k.toNat) (by have:=P.nl;omega)
  by_cases hk':k' < 0
  · have q2:=P.ends _ _ (P.end_ hk' (by omega));have he:=isEnd_end hL (i:=(-1-k').toNat) (by omega);rw [← e,q1.2.1] at q2;rw [← q2.2.1,hn] at he
    cases he
  · have q2:=P.nodes _ _ (P.node_ hk' h2);rw [← e] at q2;have hkn:k.toNat < d.nodes.length:=by have:=P.nl;omega
    have hkn':k'.toNat < d.nodes.length:=by have:=P.nl;omega
    have hkids:(d.nodeAt k.toNat).2=(d.nodeAt k'.toNat).2:=by
     have hmap:=q1.2.2.symm.trans q2.2.2;refine map_inj_on (f:=fun k=>(ad A N k:Int)) ?_ hmap;intro x hx y hy exy;have r1:=hL.kids _ hkn x hx;have r2:=hL.kids _ hkn' y hy;exact PutAt.inj P hL O hA n x y (by have:=r1.1.1;omega) (by have:=r1.1.1;omega) (by have:=r2.1.1;omega) r1.1.2 r2.1.2 (by exact Int.ofNat.inj exy)
    have:d.nodeAt k.toNat=d.nodeAt k'.toNat:=Prod.ext (by have:=q1.2.1;have:=q2.2.1;omega) hkids;have:=nodup_inj O.nodes (nodeAt_mem hkn).2 (this ▸ (nodeAt_mem hkn').2);omega
end
end Nd
namespace Hp
end Hp
end Go.Proofs.YtdokmmhjmclmnaaGreat
