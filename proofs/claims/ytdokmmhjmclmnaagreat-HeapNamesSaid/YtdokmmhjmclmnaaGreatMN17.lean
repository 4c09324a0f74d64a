/-
  Part 17 of a proof: PL1 PL2 PL3 PL4 PL5 HFn26 HFn32.
-/
import Derived.Test.YtdokmmhjmclmnaaGreatMN01
import Derived.Test.YtdokmmhjmclmnaaGreatMN06
import Derived.Test.YtdokmmhjmclmnaaGreatMN07
import Derived.Test.YtdokmmhjmclmnaaGreatMN10
import Derived.Test.YtdokmmhjmclmnaaGreatMN12
set_option linter.unusedSimpArgs false
set_option linter.unusedVariables false
set_option linter.unusedSectionVars false
set_option linter.unnecessarySimpa false
namespace Go.Proofs.YtdokmmhjmclmnaaGreat
namespace Hp
def ow (W:List Int) (j:Nat):Int:=W.getD j 0
def cut (f:Nat → Int) (i n:Nat):List Int:=(List.range n).map fun k=>f (i+k)
theorem cut_length (f:Nat → Int) (i n:Nat):(cut f i n).length=n:=by simp [cut]
theorem cut_get {f:Nat → Int} {i n k:Nat} (h:k < n):(cut f i n)[k]? = some (f (i+k)):=by simp [cut,h]
theorem mem_cut {f:Nat → Int} {i n:Nat} {x:Int}:x ∈ cut f i n ↔ ∃ k,k < n ∧ f (i+k)=x:=by simp [cut]
theorem cut_congr {f g:Nat → Int} {i n:Nat} (h:∀ k,k < n → f (i+k)=g (i+k)):cut f i n=cut g i n:=by
 unfold cut
 apply List.map_congr_left
 intro k hk
 exact h k (by simpa using hk)
theorem rd_ow {W:List Int} {j:Nat} (h:j < W.length):rd W j=some (ow W j):=by
 simp [rd,ow,List.getD,List.getElem?_eq_getElem h]
theorem wr_ow {W:List Int} {i:Nat} (v:Int) (h:i < W.length):∃ W',wr W i v=some W' ∧ W'.length=W.length ∧ ∀ j,ow W' j=if j=i then v else ow W j:=by
 refine ⟨W.set i v,by simp [wr,h],by simp,fun j=>?_⟩
 simp only [ow,List.getD,List.getElem?_set]
 by_cases e:i=j
 · subst e;simp [h]
 · rw [if_neg e,if_neg (fun e'=>e e'.symm)]
theorem zero_ow {W:List Int} {i n:Nat} (h:i+n ≤ W.length):∃ W',zero W i n=some W' ∧ W'.length=W.length ∧ ∀ j,ow W' j=if i ≤ j ∧ j < i+n then 0 else ow W j:=by
 refine ⟨_,by unfold zero;rw [if_pos h],by simp;omega,fun j=>?_⟩
 simp only [ow,List.getD]
 by_cases h1:j < i
 · rw [if_neg (by omega),List.append_assoc,List.getElem?_append_left (by simp;omega),List.getElem?_take_of_lt h1]
 · by_cases h2:j < i+n
   · rw [if_pos (by omega),List.append_assoc,List.getElem?_append_right (by simp;omega),List.getElem?_append_left (by simp;omega)];simp only [List.length_take,List.getElem?_replicate];rw [if_pos (by omega)];rfl
   · rw [if_neg (by omega),List.getElem?_append_right (by simp;omega),List.getElem?_drop];simp only [List.length_append,List.length_take,List.length_replicate];rw [show i+n+(j-(min i W.length+n))=j by omega]
theorem lay_ow {W l:List Int} {i:Nat} (h:i+l.length ≤ W.length):∃ W',lay W i l=some W' ∧ W'.length=W.length ∧ ∀ j,ow W' j=if i ≤ j ∧ j < i+l.length then l.getD (j-i) 0 else ow W j:=by
 refine ⟨_,by unfold lay;rw [if_pos h],by simp;omega,fun j=>?_⟩
 simp only [ow,List.getD]
 by_cases h1:j < i
 · rw [if_neg (by omega),List.getElem?_append_left (by simp;omega),List.getElem?_take_of_lt h1]
 · by_cases h2:j < i+l.length
   · rw [if_pos (by omega),List.getElem?_append_right (by simp;omega),List.getElem?_append_left (by simp;omega)];simp only [List.length_take];rw [show min i W.length=i by omega]
   · rw [if_neg (by omega),List.getElem?_append_right (by simp;omega),List.getElem?_append_right (by simp;omega),List.getElem?_drop];simp only [List.length_take];rw [show i+l.length+(j-min i W.length-l.length)=j by omega]
theorem sub_ow {W:List Int} {i n:Nat} (h:i+n ≤ W.length):sub W i n=some (cut (ow W) i n):=by
 unfold sub
 rw [if_pos h]
 congr 1
 apply List.ext_getElem?
 intro k
 by_cases hk:k < n
 · rw [cut_get hk,List.getElem?_take_of_lt hk,List.getElem?_drop];exact rd_ow (by omega)
 · rw [List.getElem?_eq_none (by simp;omega),List.getElem?_eq_none (by rw [cut_length];omega)]
theorem ra_ow {W:List Int} {i:Nat} {a:Nat} (h:i < W.length) (e:ow W i=(a:Int)):ra W i=some a:=by
 unfold ra
 rw [rd_ow h,e]
 simp [adr]
theorem ck_in {x:Int} (h1 : -4611686018427387904 < x) (h2:x < 4611686018427387904):ck x=some x:=by
 unfold ck
 rw [if_pos ⟨h1,h2⟩]
theorem rc_ow {W:List Int} {i:Nat} (h:i < W.length) (h1 : -4611686018427387904 < ow W i) (h2:ow W i < 4611686018427387904):rc W i=some (ow W i):=by
 unfold rc
 rw [rd_ow h]
 exact ck_in h1 h2
structure Fr (z:List Int):Prop where
 few:z.length ≤ 6
 pos:∀ s ∈ z,1 ≤ s ∧ s ≤ 12
def wz (z:List Int) (t:Int):Nat:=if isEnd t then 5 else 4+(z.getD (t-1).toNat 0).toNat
def okTag (z:List Int) (t:Int):Bool:=isNode z t || isEnd t
theorem okTag_le {z:List Int} (hz:Fr z) {t:Int} (h:okTag z t=true):1 ≤ t ∧ t ≤ 24:=by
 have:=hz.few
 simp only [okTag,isNode,isEnd,within,Bool.or_eq_true,Bool.and_eq_true,decide_eq_true_eq] at h
 omega
theorem wz_ok {z:List Int} (hz:Fr z) {t:Int} (h:okTag z t=true):wide z t=some (wz z t) ∧ 5 ≤ wz z t ∧ wz z t ≤ 16:=by
 unfold wide wz
 cases he:isEnd t with
 | true=>simp
 | false=>
  simp only [okTag,he,Bool.or_false,isNode,within,Bool.and_eq_true,decide_eq_true_eq] at h;have hl:(t-1).toNat < z.length:=by omega
  have e1:adr (t-1)=some (t-1).toNat:=by simp [adr];omega
  generalize (t-1).toNat=i at *;have e2:z.getD i 0=z[i]:=by simp [List.getD,List.getElem?_eq_getElem hl]
  have hp:=hz.pos _ (List.getElem_mem hl);have e3:ra z i=some (z[i]).toNat:=by
   unfold ra rd;rw [List.getElem?_eq_getElem hl];simp [adr];omega
  simp only [Bool.false_eq_true,if_false,e1,e3,Option.bind_eq_bind,Option.bind_some,e2];refine ⟨rfl,by omega,by omega⟩
def fz (f:Nat → Int) (z:List Int) (a:Nat):List Int:=cut f (a+4) (wz z (f a)-4)
def kz (f:Nat → Int) (z:List Int) (a:Nat):List Int:=if isEnd (f a) then [] else fz f z a
theorem fz_length (f:Nat → Int) (z:List Int) (a:Nat):(fz f z a).length=wz z (f a)-4:=by simp [fz,cut_length]
section
variable {S:Hs} {a:Nat}
theorem tag_ow (h:a < S.words.length):S.tag a=some (ow S.words a):=rd_ow h
theorem wideAt_ow (hz:Fr S.sizes) (h:a < S.words.length) (ho:okTag S.sizes (ow S.words a)=true):S.wideAt a=some (wz S.sizes (ow S.words a)):=by
 unfold Hs.wideAt
 rw [tag_ow h]
 exact (wz_ok hz ho).1
theorem fields_ow (hz:Fr S.sizes) (ho:okTag S.sizes (ow S.words a)=true) (h:a+wz S.sizes (ow S.words a) ≤ S.words.length):S.fields a=some (fz (ow S.words) S.sizes a):=by
 have hw:=wz_ok hz ho
 unfold Hs.fields
 rw [wideAt_ow hz (by omega) ho]
 simp only [Option.bind_eq_bind,Option.bind_some]
 exact sub_ow (by omega)
theorem kids_ow (hz:Fr S.sizes) (ho:okTag S.sizes (ow S.words a)=true) (h:a+wz S.sizes (ow S.words a) ≤ S.words.length):S.kids a=some (kz (ow S.words) S.sizes a):=by
 have hw:=wz_ok hz ho
 unfold Hs.kids kz
 rw [tag_ow (by omega)]
 simp only [Option.bind_eq_bind,Option.bind_some]
 cases isEnd (ow S.words a)
 · simpa using fields_ow hz ho h
 · simp
end
def sz:List Int → Int → Int → Int
 | [],_,n=>n
 | f :: r,i,n=>sz r (i+1) (n+(i+1) * f)
def cz (t:Int) (l:List Int):Nat:=(sz l 0 (7 * t) % 16).toNat
theorem cz_lt (t:Int) (l:List Int):cz t l < 16:=by unfold cz;omega
theorem sums_sz:∀ (l:List Int) (i:Nat) (n:Int),(∀ x ∈ l,-1000000 ≤ x ∧ x ≤ 1000000) → i+l.length ≤ 20 → -1000000000 * (i:Int)-1000000 ≤ n → n ≤ 1000000000 * (i:Int)+1000000 → sums l i n=some (sz l i n)
 | [],_,_,_,_,_,_=>rfl
 | f :: r,i,n,h,hi,h1,h2=>by
  have hf:=h f (by simp);simp only [List.length_cons] at hi;have hm : -20000000 ≤ ((i:Int)+1) * f ∧ ((i:Int)+1) * f ≤ 20000000:=by
   have h0:((i:Int)+1) ≤ 20:=by omega
   have h00:0 ≤ ((i:Int)+1):=by omega
   constructor
   · have:=Int.mul_le_mul_of_nonneg_left hf.1 h00;have h3:((i:Int)+1) * -1000000 ≥ 20 * -1000000:=by omega
     omega
   · have:=Int.mul_le_mul_of_nonneg_left hf.2 h00;have h3:((i:Int)+1) * 1000000 ≤ 20 * 1000000:=by omega
     omega
  unfold sums sz;rw [ck_in (by omega) (by omega)];simp only [Option.bind_eq_bind,Option.bind_some];rw [ck_in (by omega) (by omega)];simp only [Option.bind_some];have:=sums_sz r (i+1) (n+((i:Int)+1) * f) (fun x hx=>h x (by simp [hx])) (by omega) (by push_cast;omega) (by push_cast;omega);rw [show ((i+1:Nat):Int)=(i:Int)+1 by push_cast;rfl] at this;exact this
theorem chain_cz {t:Int} {l:List Int} (ht : -1000 ≤ t ∧ t ≤ 1000) (h:∀ x ∈ l,-1000000 ≤ x ∧ x ≤ 1000000) (hl:l.length ≤ 12):chain t l=some (cz t l):=by
 unfold chain cz
 rw [ck_in (x:=t) (by omega) (by omega)]
 simp only [Option.bind_eq_bind,Option.bind_some]
 rw [ck_in (by omega) (by omega)]
 simp only [Option.bind_some]
 have:=sums_sz l 0 (7 * t) h (by omega) (by omega) (by omega)
 rw [show ((0:Nat):Int)=0 from rfl] at this
 rw [this]
 rfl
end Hp
namespace Hp
structure Tl where
 a:Nat
 k:Nat
 fr:Bool
deriving DecidableEq
def Lay:Nat → List Tl → Nat → Prop
 | s,[],n=>s=n
 | s,t :: r,n=>t.a=s ∧ 3 ≤ t.k ∧ Lay (s+t.k) r n
theorem Lay.le:∀ {s n:Nat} {L:List Tl},Lay s L n → s ≤ n
 | _,_,[],h=>Nat.le_of_eq h
 | _,_,t :: r,h=>by have:=Lay.le h.2.2;omega
theorem Lay.mem:∀ {s n:Nat} {L:List Tl} {t:Tl},Lay s L n → t ∈ L → s ≤ t.a ∧ t.a+t.k ≤ n ∧ 3 ≤ t.k
 | _,_,[],_,_,h=>by cases h
 | s,n,u :: r,t,h,ht=>by
  obtain ⟨h1,h2,h3⟩:=h
  rcases List.mem_cons.1 ht with rfl | ht
  · have:=Lay.le h3;omega
  · have:=Lay.mem h3 ht;omega
theorem Lay.app:∀ {s n:Nat} {P Q:List Tl},Lay s (P ++ Q) n ↔ ∃ m,Lay s P m ∧ Lay m Q n
 | s,n,[],Q=>by simp [Lay]
 | s,n,t :: P,Q=>by
  simp only [List.cons_append,Lay];rw [Lay.app];constructor
  · rintro ⟨h1,h2,m,h3,h4⟩;exact ⟨m,⟨h1,h2,h3⟩,h4⟩
  · rintro ⟨m,⟨h1,h2,h3⟩,h4⟩;exact ⟨h1,h2,m,h3,h4⟩
theorem Lay.sep:∀ {s n:Nat} {L:List Tl} {t u:Tl},Lay s L n → t ∈ L → u ∈ L → t=u ∨ t.a+t.k ≤ u.a ∨ u.a+u.k ≤ t.a
 | _,_,[],_,_,_,h,_=>by cases h
 | s,n,v :: r,t,u,h,ht,hu=>by
  obtain ⟨h1,h2,h3⟩:=h
  rcases List.mem_cons.1 ht with e | ht' <;> rcases List.mem_cons.1 hu with e' | hu'
  · exact .inl (e.trans e'.symm)
  · have:=Lay.mem h3 hu';subst e;omega
  · have:=Lay.mem h3 ht';subst e';omega
  · exact Lay.sep h3 ht' hu'
theorem Lay.same {s n:Nat} {L:List Tl} {t u:Tl} (h:Lay s L n) (ht:t ∈ L) (hu:u ∈ L) (e:t.a=u.a):t=u:=by
 have h1:=h.mem ht
 have h2:=h.mem hu
 rcases h.sep ht hu with h3 | h3
 · exact h3
 · omega
theorem Lay.parts {s n:Nat} {P Q:List Tl} {t:Tl} (h:Lay s (P ++ t :: Q) n):Lay s P t.a ∧ 3 ≤ t.k ∧ Lay (t.a+t.k) Q n:=by
 obtain ⟨m,h1,h2,h3,h4⟩:=Lay.app.1 h
 subst h2
 exact ⟨h1,h3,h4⟩
def adsOf (L:List Tl):List Nat:=(L.filter fun t=>!t.fr).map Tl.a
theorem mem_adsOf {L:List Tl} {a:Nat}:a ∈ adsOf L ↔ ∃ t ∈ L,t.fr=false ∧ t.a=a:=by
 simp only [adsOf,List.mem_map,List.mem_filter,Bool.not_eq_true']
 constructor
 · rintro ⟨t,⟨h1,h2⟩,h3⟩;exact ⟨t,h1,h2,h3⟩
 · rintro ⟨t,h1,h2,h3⟩;exact ⟨t,⟨h1,h2⟩,h3⟩
theorem adsOf_app (P Q:List Tl):adsOf (P ++ Q)=adsOf P ++ adsOf Q:=by simp [adsOf]
theorem adsOf_up:∀ {s n:Nat} {L:List Tl},Lay s L n → (adsOf L).Pairwise (· < ·)
 | _,_,[],_=>List.Pairwise.nil
 | s,n,t :: r,h=>by
  obtain ⟨h1,h2,h3⟩:=h;have ih:=adsOf_up h3;have e:adsOf (t :: r)=(if t.fr then [] else [t.a]) ++ adsOf r:=by
   cases hf:t.fr <;> simp [adsOf,hf]
  rw [e]
  cases hf:t.fr
  · simp only [Bool.false_eq_true,if_false,List.singleton_append,List.pairwise_cons];refine ⟨fun b hb=>?_,ih⟩;obtain ⟨u,hu,_,rfl⟩:=mem_adsOf.1 hb;have:=Lay.mem h3 hu;omega
  · simpa using ih
def headF:List Tl → Int → Int
 | [],x=>x
 | t :: r,x=>if t.fr then (t.a:Int) else headF r x
def lastL:Nat → List Tl → Nat
 | l,[]=>l
 | l,t :: r=>if t.fr then lastL (t.a+2) r else lastL l r
def Links (f:Nat → Int):Nat → List Tl → Int → Prop
 | l,[],x=>f l=x
 | l,t :: r,x=>if t.fr then f l=t.a ∧ Links f (t.a+2) r x else Links f l r x
theorem Links.head {f:Nat → Int}:∀ {l:Nat} {L:List Tl} {x:Int},Links f l L x → f l=headF L x
 | _,[],_,h=>h
 | l,t :: r,x,h=>by
  unfold Links at h;unfold headF
  cases hf:t.fr
  · rw [hf] at h
    simpa using Links.head (by simpa using h)
  · rw [hf] at h;simp only [if_true] at h ⊢;exact h.1
theorem Links.app {f:Nat → Int}:∀ {l:Nat} {P Q:List Tl} {x:Int},Links f l (P ++ Q) x ↔ Links f l P (headF Q x) ∧ Links f (lastL l P) Q x
 | l,[],Q,x=>by
  simp only [List.nil_append,Links,lastL];exact ⟨fun h=>⟨h.head,h⟩,fun h=>h.2⟩
 | l,t :: P,Q,x=>by
  simp only [List.cons_append,Links,lastL]
  cases hf:t.fr
  · simpa using Links.app
  · simp only [if_true];rw [Links.app];exact ⟨fun h=>⟨⟨h.1,h.2.1⟩,h.2.2⟩,fun h=>⟨h.1.1,h.1.2,h.2⟩⟩
theorem lastL_is:∀ {l:Nat} {L:List Tl},lastL l L=l ∨ ∃ t ∈ L,t.fr=true ∧ lastL l L=t.a+2
 | l,[]=>.inl rfl
 | l,t :: r=>by
  unfold lastL
  cases hf:t.fr
  · simp only [Bool.false_eq_true,if_false]
    rcases @lastL_is l r with h | ⟨u,hu,h1,h2⟩
    · exact .inl h
    · exact .inr ⟨u,by simp [hu],h1,h2⟩
  · simp only [if_true]
    rcases @lastL_is (t.a+2) r with h | ⟨u,hu,h1,h2⟩
    · exact .inr ⟨t,by simp,hf,h⟩
    · exact .inr ⟨u,by simp [hu],h1,h2⟩
theorem lastL_ge {s n l:Nat} {L:List Tl} (h:Lay s L n) (hl:l ≤ s):l ≤ lastL l L ∧ lastL l L ≤ n:=by
 have hn:=h.le
 rcases @lastL_is l L with e | ⟨t,ht,_,e⟩
 · rw [e];omega
 · have:=h.mem ht;rw [e];omega
theorem Links.congr {f g:Nat → Int}:∀ {l:Nat} {L:List Tl} {x:Int},Links f l L x → g l=f l → (∀ t ∈ L,t.fr=true → g (t.a+2)=f (t.a+2)) → Links g l L x
 | _,[],_,h,e,_=>e.trans h
 | l,t :: r,x,h,e,hm=>by
  unfold Links at h ⊢
  cases hf:t.fr
  · rw [hf] at h;simp only [Bool.false_eq_true,if_false] at h ⊢;exact Links.congr h e fun u hu=>hm u (by simp [hu])
  · rw [hf] at h;simp only [if_true] at h ⊢;exact ⟨e.trans h.1,Links.congr h.2 (hm t (by simp) hf) fun u hu=>hm u (by simp [hu])⟩
theorem Links.turn {f g:Nat → Int}:∀ {s n l:Nat} {L:List Tl} {x:Int} (y:Int),Links f l L x → Lay s L n → l ≤ s → g (lastL l L)=y → (l ≠ lastL l L → g l=f l) → (∀ t ∈ L,t.fr=true → t.a+2 ≠ lastL l L → g (t.a+2)=f (t.a+2)) → Links g l L y
 | _,_,_,[],_,_,_,_,_,e,_,_=>e
 | s,n,l,t :: r,x,y,h,hL,hl,e,h0,hm=>by
  obtain ⟨h1,h2,h3⟩:=hL;unfold Links at h ⊢;unfold lastL at e h0 hm
  cases hf:t.fr
  · rw [hf] at h;simp only [hf,Bool.false_eq_true,if_false] at h e h0 hm ⊢;exact Links.turn y h h3 (by omega) e h0 fun u hu=>hm u (by simp [hu])
  · rw [hf] at h;simp only [hf,if_true] at h e h0 hm ⊢;have:=lastL_ge h3 (l:=t.a+2) (by omega);exact ⟨(h0 (by omega)).trans h.1,Links.turn y h.2 h3 (by omega) e (fun hne=>hm t (by simp) hf hne) fun u hu=>hm u (by simp [hu])⟩
def Sep:List Tl → Prop
 | t :: u :: r=>¬ (t.fr=true ∧ u.fr=true) ∧ Sep (u :: r)
 | _=>True
theorem Sep.tail {t:Tl} {r:List Tl} (h:Sep (t :: r)):Sep r:=by
 cases r with
 | nil=>trivial
 | cons u r=>exact h.2
def hdF:List Tl → Bool
 | []=>false
 | t :: _=>t.fr
def ltF:List Tl → Bool
 | []=>false
 | [t]=>t.fr
 | _ :: r=>ltF r
theorem Sep.app:∀ {P Q:List Tl},Sep (P ++ Q) ↔ Sep P ∧ Sep Q ∧ ¬ (ltF P=true ∧ hdF Q=true)
 | [],Q=>by simp [Sep,ltF]
 | [t],[]=>by simp [Sep,hdF]
 | [t],u :: Q=>by
  simp only [List.singleton_append,Sep,ltF,hdF];constructor
  · rintro ⟨h1,h2⟩;exact ⟨trivial,h2,h1⟩
  · rintro ⟨_,h2,h1⟩;exact ⟨h1,h2⟩
 | t :: u :: P,Q=>by
  have ih:=@Sep.app (u :: P) Q;simp only [List.cons_append] at ih;simp only [List.cons_append,Sep,ltF,ih];constructor
  · rintro ⟨h1,h2,h3,h4⟩;exact ⟨⟨h1,h2⟩,h3,h4⟩
  · rintro ⟨⟨h1,h2⟩,h3,h4⟩;exact ⟨h1,h2,h3,h4⟩
def PartOk (f:Nat → Int) (z:List Int) (t:Tl):Prop:=
 if t.fr then f t.a=0 ∧ f (t.a+1)=t.k ∧ ∀ j,t.a+3 ≤ j → j < t.a+t.k → f j=0 else okTag z (f t.a)=true ∧ t.k=wz z (f t.a)
theorem PartOk.free {f:Nat → Int} {z:List Int} {t:Tl} (h:PartOk f z t) (hf:t.fr=true):f t.a=0 ∧ f (t.a+1)=t.k ∧ ∀ j,t.a+3 ≤ j → j < t.a+t.k → f j=0:=by
 unfold PartOk at h
 rw [hf] at h
 exact h
theorem PartOk.cell {f:Nat → Int} {z:List Int} {t:Tl} (h:PartOk f z t) (hf:t.fr=false):okTag z (f t.a)=true ∧ t.k=wz z (f t.a):=by
 unfold PartOk at h
 rw [hf] at h
 simpa using h
theorem PartOk.congr {f g:Nat → Int} {z:List Int} {t:Tl} (h:PartOk f z t) (ha:g t.a=f t.a) (hf:t.fr=true → g (t.a+1)=f (t.a+1) ∧ ∀ j,t.a+3 ≤ j → j < t.a+t.k → g j=f j):PartOk g z t:=by
 unfold PartOk at h ⊢
 cases e:t.fr
 · rw [e] at h;simp only [Bool.false_eq_true,if_false] at h ⊢;rw [ha];exact h
 · rw [e] at h;simp only [if_true] at h ⊢;obtain ⟨h1,h2⟩:=hf e;exact ⟨ha.trans h.1,h1.trans h.2.1,fun j hj hk=>(h2 j hj hk).trans (h.2.2 j hj hk)⟩
structure Parts (f:Nat → Int) (z:List Int) (L:List Tl) (n:Nat):Prop where
 lay:Lay 17 L n
 links:Links f 16 L 0
 sep:Sep L
 ok:∀ t ∈ L,PartOk f z t
namespace Parts
variable {f g:Nat → Int} {z:List Int} {L:List Tl} {n:Nat}
theorem congr (h:Parts f z L n) (h16:g 16=f 16) (hc:∀ t ∈ L,g t.a=f t.a) (hf:∀ t ∈ L,t.fr=true → ∀ j,t.a ≤ j → j < t.a+t.k → g j=f j):Parts g z L n:=by
 refine ⟨h.lay,h.links.congr h16 fun t ht hfr=>?_,h.sep,fun t ht=>(h.ok t ht).congr (hc t ht) fun hfr=>⟨?_,fun j hj hk=>hf t ht hfr j (by omega) hk⟩⟩
 · have:=h.lay.mem ht;exact hf t ht hfr _ (by omega) (by omega)
 · have:=h.lay.mem ht;exact hf t ht hfr _ (by omega) (by omega)
end Parts
end Hp
namespace Hp
def Path (f:Nat → Int):Nat → List Nat → Prop
 | l,[]=>f l=0
 | l,a :: r=>f l=(a:Int) ∧ a ≠ 0 ∧ Path f (a+3) r
theorem Path.congr {f g:Nat → Int}:∀ {l:Nat} {r:List Nat},Path f l r → g l=f l → (∀ a ∈ r,g (a+3)=f (a+3)) → Path g l r
 | _,[],h,e,_=>e.trans h
 | _,a :: r,h,e,hm=>⟨e.trans h.1,h.2.1,Path.congr h.2.2 (hm a (by simp)) fun b hb=>hm b (by simp [hb])⟩
structure Chains (f:Nat → Int) (z:List Int) (Lv:List Nat) (ch:Nat → List Nat):Prop where
 path:∀ c,c < 16 → Path f c (ch c)
 nodup:∀ c,c < 16 → (ch c).Nodup
 mem:∀ c,c < 16 → ∀ a,a ∈ ch c ↔ a ∈ Lv ∧ cz (f a) (fz f z a)=c
structure Cells (f:Nat → Int) (z o:List Int) (Lv:List Nat):Prop where
 tags:∀ a ∈ Lv,okTag z (f a)=true
 ends:∀ a ∈ Lv,isEnd (f a)=true → -9999 ≤ f (a+4) ∧ f (a+4) ≤ 9999 ∧ (20 < f a → f (a+4)=0)
 kids:∀ a ∈ Lv,∀ x ∈ kz f z a,∃ b ∈ Lv,x=(b:Int) ∧ rank o (f a) < rank o (f b)
 flat:∀ a ∈ Lv,isEnd (f a)=false → Hs.alike (fz f z a)=false
 one:∀ a ∈ Lv,∀ b ∈ Lv,f a=f b → fz f z a=fz f z b → a=b
def cnt (f:Nat → Int) (z:List Int) (a:Nat):List Nat → Nat
 | []=>0
 | b :: r=>(kz f z b).count (a:Int)+cnt f z a r
def Uses (f:Nat → Int) (z:List Int) (Lv Src:List Nat):Prop:=∀ a ∈ Lv,f (a+1)=cnt f z a Src
def Holds (f:Nat → Int) (Lv:List Nat) (B:Nat):Prop:=∀ a ∈ Lv,0 ≤ f (a+2) ∧ f (a+2) ≤ B
theorem kz_congr {f g:Nat → Int} {z:List Int} {a:Nat} (h0:g a=f a) (h:∀ i,i < wz z (f a)-4 → g (a+4+i)=f (a+4+i)):fz g z a=fz f z a ∧ kz g z a=kz f z a:=by
 have e:fz g z a=fz f z a:=by
  unfold fz;rw [h0];exact cut_congr h
 refine ⟨e, ?_⟩
 unfold kz
 rw [h0,e]
def Same (f g:Nat → Int) (z:List Int) (Lv:List Nat):Prop:=∀ a ∈ Lv,g a=f a ∧ ∀ i,i < wz z (f a)-4 → g (a+4+i)=f (a+4+i)
namespace Same
variable {f g:Nat → Int} {z o:List Int} {Lv Src:List Nat} {ch:Nat → List Nat}
theorem fz_ (h:Same f g z Lv) {a:Nat} (ha:a ∈ Lv):fz g z a=fz f z a:=(kz_congr (h a ha).1 (h a ha).2).1
theorem kz_ (h:Same f g z Lv) {a:Nat} (ha:a ∈ Lv):kz g z a=kz f z a:=(kz_congr (h a ha).1 (h a ha).2).2
theorem cells (h:Same f g z Lv) (hz:Fr z) (k:Cells f z o Lv):Cells g z o Lv where
 tags a ha:=by rw [(h a ha).1];exact k.tags a ha
 ends a ha he:=by
  have e:=(h a ha).1;rw [e] at he ⊢;have e4:g (a+4)=f (a+4):=by
   have:=(h a ha).2 0 (by have:=wz_ok hz (k.tags a ha);omega)
   simpa using this
  rw [e4];exact k.ends a ha he
 kids a ha x hx:=by
  rw [h.kz_ ha] at hx;obtain ⟨b,hb,e,hr⟩:=k.kids a ha x hx;refine ⟨b,hb,e, ?_⟩;rw [(h a ha).1,(h b hb).1];exact hr
 flat a ha he:=by
  rw [(h a ha).1] at he;rw [h.fz_ ha];exact k.flat a ha he
 one a ha b hb h1 h2:=by
  rw [(h a ha).1,(h b hb).1] at h1;rw [h.fz_ ha,h.fz_ hb] at h2;exact k.one a ha b hb h1 h2
theorem chains (h:Same f g z Lv) (k:Chains f z Lv ch) (h0:∀ c,c < 16 → g c=f c) (h3:∀ a ∈ Lv,g (a+3)=f (a+3)):Chains g z Lv ch where
 path c hc:=(k.path c hc).congr (h0 c hc) fun a ha=>h3 a ((k.mem c hc a).1 ha).1
 nodup:=k.nodup
 mem c hc a:=by
  rw [k.mem c hc a];constructor
  · rintro ⟨h1,h2⟩;exact ⟨h1,by rw [(h a h1).1,h.fz_ h1];exact h2⟩
  · rintro ⟨h1,h2⟩;rw [(h a h1).1,h.fz_ h1] at h2;exact ⟨h1,h2⟩
theorem cnt_ (h:Same f g z Lv) (a:Nat):∀ {Src:List Nat},(∀ b ∈ Src,b ∈ Lv) → cnt g z a Src=cnt f z a Src
 | [],_=>rfl
 | b :: r,hs=>by
  unfold cnt;rw [h.kz_ (hs b (by simp)),cnt_ h a fun c hc=>hs c (by simp [hc])]
theorem uses (h:Same f g z Lv) (k:Uses f z Lv Src) (hs:∀ b ∈ Src,b ∈ Lv) (h1:∀ a ∈ Lv,g (a+1)=f (a+1)):Uses g z Lv Src:=fun a ha=>by
 rw [h1 a ha,h.cnt_ a hs]
 exact k a ha
end Same
structure FrOk (z o:List Int):Prop extends Fr z where
 len:o.length=z.length
 perm:∀ i:Nat,i < z.length → (i:Int) ∈ o
 rng:∀ x ∈ o,0 ≤ x ∧ x < z.length
 nodup:o.Nodup
structure Wf (S:Hs) (B:Nat) (L:List Tl) (ch:Nat → List Nat):Prop where
 fr:FrOk S.sizes S.order
 lo:20 ≤ S.words.length
 hi:S.words.length ≤ 100000
 bd:B ≤ 100000
 parts:Parts (ow S.words) S.sizes L S.words.length
 taken:S.taken=adsOf L
 chains:Chains (ow S.words) S.sizes S.taken ch
 cells:Cells (ow S.words) S.sizes S.order S.taken
 uses:Uses (ow S.words) S.sizes S.taken S.taken
 holds:Holds (ow S.words) S.taken B
namespace Wf
variable {S:Hs} {B:Nat} {L:List Tl} {ch:Nat → List Nat}
theorem part (h:Wf S B L ch) {a:Nat} (ha:a ∈ S.taken):(⟨a,wz S.sizes (ow S.words a),false⟩:Tl) ∈ L ∧ 17 ≤ a ∧ a+wz S.sizes (ow S.words a) ≤ S.words.length ∧ 5 ≤ wz S.sizes (ow S.words a) ∧ wz S.sizes (ow S.words a) ≤ 16:=by
 rw [h.taken] at ha
 obtain ⟨t,ht,hf,rfl⟩:=mem_adsOf.1 ha
 obtain ⟨h1,h2⟩:=(h.parts.ok t ht).cell hf
 have h3:=h.parts.lay.mem ht
 have h4:=wz_ok h.fr.toFr h1
 rw [← h2]
 rw [← h2] at h4
 refine ⟨?_,h3.1,h3.2.1,h4.2.1,h4.2.2⟩
 have:(⟨t.a,t.k,false⟩:Tl)=t:=by
  cases t
  simp only at hf;subst hf;rfl
 rw [this]
 exact ht
theorem tag_ (h:Wf S B L ch) {a:Nat} (ha:a ∈ S.taken):S.tag a=some (ow S.words a):=tag_ow (by have:=h.part ha;omega)
theorem fields_ (h:Wf S B L ch) {a:Nat} (ha:a ∈ S.taken):S.fields a=some (fz (ow S.words) S.sizes a):=fields_ow h.fr.toFr (h.cells.tags a ha) (h.part ha).2.2.1
theorem kids_ (h:Wf S B L ch) {a:Nat} (ha:a ∈ S.taken):S.kids a=some (kz (ow S.words) S.sizes a):=kids_ow h.fr.toFr (h.cells.tags a ha) (h.part ha).2.2.1
theorem wide_ (h:Wf S B L ch) {a:Nat} (ha:a ∈ S.taken):S.wideAt a=some (wz S.sizes (ow S.words a)):=wideAt_ow h.fr.toFr (by have:=h.part ha;omega) (h.cells.tags a ha)
theorem fld_le (h:Wf S B L ch) {a:Nat} (ha:a ∈ S.taken):∀ x ∈ fz (ow S.words) S.sizes a,-1000000 ≤ x ∧ x ≤ 1000000:=by
 intro x hx
 cases he:isEnd (ow S.words a) with
 | true=>
  obtain ⟨k,hk,rfl⟩:=mem_cut.1 hx;have e:wz S.sizes (ow S.words a)=5:=by simp [wz,he]
  have:k=0:=by omega
  subst this;have:=h.cells.ends a ha he;rw [Nat.add_zero];omega
 | false=>
  have hk:x ∈ kz (ow S.words) S.sizes a:=by
   unfold kz;rw [he]
   simpa using hx
  obtain ⟨b,hb,rfl,_⟩:=h.cells.kids a ha x hk;have:=h.part hb;have:=h.hi;omega
theorem tag_le (h:Wf S B L ch) {a:Nat} (ha:a ∈ S.taken):1 ≤ ow S.words a ∧ ow S.words a ≤ 24:=okTag_le h.fr.toFr (h.cells.tags a ha)
theorem chain_ (h:Wf S B L ch) {a:Nat} (ha:a ∈ S.taken):chain (ow S.words a) (fz (ow S.words) S.sizes a)=some (cz (ow S.words a) (fz (ow S.words) S.sizes a)):=by
 have h1:=h.tag_le ha
 have h2:=h.part ha
 exact chain_cz (by omega) (h.fld_le ha) (by rw [fz_length];omega)
theorem up (h:Wf S B L ch):S.taken.Pairwise (· < ·):=by
 rw [h.taken]
 exact adsOf_up h.parts.lay
theorem sep (h:Wf S B L ch) {a b:Nat} (ha:a ∈ S.taken) (hb:b ∈ S.taken):a=b ∨ a+wz S.sizes (ow S.words a) ≤ b ∨ b+wz S.sizes (ow S.words b) ≤ a:=by
 rcases h.parts.lay.sep (h.part ha).1 (h.part hb).1 with e | e
 · injection e with e1
   exact .inl e1
 · exact .inr e
theorem apart (h:Wf S B L ch) {a:Nat} {t:Tl} (ha:a ∈ S.taken) (ht:t ∈ L) (hf:t.fr=true):a+wz S.sizes (ow S.words a) ≤ t.a ∨ t.a+t.k ≤ a:=by
 rcases h.parts.lay.sep (h.part ha).1 ht with e | e
 · rw [← e] at hf
   cases hf
 · exact e
end Wf
theorem nodup_len:∀ {l m:List Nat},l.Nodup → (∀ a ∈ l,a ∈ m) → l.length ≤ m.length
 | [],_,_,_=>Nat.zero_le _
 | a :: r,m,hp,hm=>by
  have ha:a ∈ m:=hm a (by simp);obtain ⟨h1,h2⟩:=List.nodup_cons.1 hp;have:=nodup_len (l:=r) (m:=m.erase a) h2 (fun b hb=>(List.mem_erase_of_ne (by rintro rfl;exact h1 hb)).2 (hm b (by simp [hb])));rw [List.length_erase_of_mem ha] at this;have:=List.length_pos_of_mem ha;simp only [List.length_cons];omega
theorem up_len:∀ {m n:Nat} {T:List Nat},T.Pairwise (· < ·) → (∀ a ∈ T,m ≤ a ∧ a < n) → m ≤ n → T.length+m ≤ n
 | m,n,[],_,_,h=>by simpa using h
 | m,n,a :: r,hp,hr,_=>by
  obtain ⟨h1,h2⟩:=List.pairwise_cons.1 hp;have ha:=hr a (by simp);have:=up_len (m:=a+1) h2 (fun b hb=>⟨h1 b hb,(hr b (by simp [hb])).2⟩) (by omega);simp only [List.length_cons];omega
theorem Wf.few {S:Hs} {B:Nat} {L:List Tl} {ch:Nat → List Nat} (h:Wf S B L ch):S.taken.length+17 ≤ S.words.length:=
 up_len h.up (fun a ha=>by have:=h.part ha;omega) (by have:=h.lo;omega)
theorem look_path {S:Hs} {B:Nat} {L:List Tl} {ch:Nat → List Nat} (h:Wf S B L ch) (t:Int) (fs:List Int):∀ (r:List Nat) (l m:Nat),Path (ow S.words) l r → (∀ a ∈ r,a ∈ S.taken) → r.length < m →
    S.lookFrom t fs m (ow S.words l).toNat=some ((r.find? fun a=>decide (ow S.words a=t ∧ fz (ow S.words) S.sizes a=fs)).getD 0)
  | [],l,m,hp,_,hm=>by
   cases m with
   | zero=>simp at hm
   | succ m=>
    have e:ow S.words l=0:=hp;simp [Hs.lookFrom,e]
  | a :: r,l,m,hp,hr,hm=>by
   cases m with
   | zero=>simp at hm
   | succ m=>
    obtain ⟨e,h0,hp⟩:=hp;have ha:=hr a (by simp);have hl:=h.part ha;rw [e];unfold Hs.lookFrom;rw [Int.toNat_natCast,if_neg h0,h.tag_ ha,h.fields_ ha];simp only [Option.bind_eq_bind,Option.bind_some]
    by_cases hq:ow S.words a=t ∧ fz (ow S.words) S.sizes a=fs
    · rw [if_pos hq,List.find?_cons_of_pos (by simpa using hq)];rfl
    · rw [if_neg hq,List.find?_cons_of_neg (by simpa using hq)];have hlt:a+3 < S.words.length:=by omega
      have hx:0 ≤ ow S.words (a+3):=by
       cases r with
       | nil=>
        have e':ow S.words (a+3)=0:=hp;omega
       | cons b r=>have:=hp.1;omega
      have e3:ra S.words (a+3)=some (ow S.words (a+3)).toNat:=ra_ow hlt (by omega);rw [e3];simp only [Option.bind_some];exact look_path h t fs r (a+3) m hp (fun b hb=>hr b (by simp [hb])) (by simpa using hm)
theorem look_eq {S:Hs} {B:Nat} {L:List Tl} {ch:Nat → List Nat} (h:Wf S B L ch) {t:Int} {fs:List Int} {c:Nat} (hc:chain t fs=some c) (h16:c < 16) :
    S.look t fs=some (((ch c).find? fun a=>decide (ow S.words a=t ∧ fz (ow S.words) S.sizes a=fs)).getD 0):=by
  have hlo:=h.lo;have hp:=h.chains.path c h16;have hm:∀ a ∈ ch c,a ∈ S.taken:=fun a ha=>((h.chains.mem c h16 a).1 ha).1
  have hln:=nodup_len (h.chains.nodup c h16) hm;have hx:0 ≤ ow S.words c:=by
   cases hcc:ch c with
   | nil=>
    rw [hcc] at hp;have e':ow S.words c=0:=hp;omega
   | cons b r=>rw [hcc] at hp;have:=hp.1;omega
  have e3:ra S.words c=some (ow S.words c).toNat:=ra_ow (by omega) (by omega);unfold Hs.look;rw [hc];simp only [Option.bind_eq_bind,Option.bind_some,e3];exact look_path h t fs _ _ _ hp hm (by have:=h.few;unfold Hs.fuel;omega)
theorem look_hit {S:Hs} {B:Nat} {L:List Tl} {ch:Nat → List Nat} (h:Wf S B L ch) {a:Nat} (ha:a ∈ S.taken):S.look (ow S.words a) (fz (ow S.words) S.sizes a)=some a:=by
 rw [look_eq h (h.chain_ ha) (cz_lt _ _)]
 congr 1
 have hm:=(h.chains.mem _ (cz_lt _ _) a).2 ⟨ha,rfl⟩
 cases hf:(ch (cz (ow S.words a) (fz (ow S.words) S.sizes a))).find? (fun b=>decide (ow S.words b=ow S.words a ∧ fz (ow S.words) S.sizes b=fz (ow S.words) S.sizes a)) with
 | none=>
  rw [List.find?_eq_none] at hf;exact absurd (by simp) (hf a hm)
 | some b=>
  have h1:=List.find?_some hf;have h2:=List.mem_of_find?_eq_some hf;simp only [decide_eq_true_eq] at h1;exact h.cells.one b ((h.chains.mem _ (cz_lt _ _) b).1 h2).1 a ha h1.1 h1.2
theorem look_spec {S:Hs} {B:Nat} {L:List Tl} {ch:Nat → List Nat} (h:Wf S B L ch) {t:Int} {fs:List Int} {c:Nat} (hc:chain t fs=some c) (h16:c < 16) :
    (∃ a ∈ S.taken,ow S.words a=t ∧ fz (ow S.words) S.sizes a=fs ∧ S.look t fs=some a) ∨ ((∀ a ∈ S.taken,¬ (ow S.words a=t ∧ fz (ow S.words) S.sizes a=fs)) ∧ S.look t fs=some 0):=by
  by_cases hx:∃ a ∈ S.taken,ow S.words a=t ∧ fz (ow S.words) S.sizes a=fs
  · obtain ⟨a,ha,h1,h2⟩:=hx;left;refine ⟨a,ha,h1,h2, ?_⟩;subst h1 h2;exact look_hit h ha
  · right;refine ⟨fun a ha hh=>hx ⟨a,ha,hh⟩, ?_⟩;rw [look_eq h hc h16]
    congr 1
    rw [List.find?_eq_none.2]
    · rfl
    · intro a ha;simp only [decide_eq_true_eq];exact fun hh=>hx ⟨a,((h.chains.mem c h16 a).1 ha).1,hh⟩
end Hp
namespace Hp
theorem Wf.ne {S:Hs} {B:Nat} {L:List Tl} {ch:Nat → List Nat} (h:Wf S B L ch) {a b i j:Nat} (ha:a ∈ S.taken) (hb:b ∈ S.taken) (hi:i < wz S.sizes (ow S.words a)) (hj:j < wz S.sizes (ow S.words b)) (hne:a ≠ b ∨ i ≠ j):a+i ≠ b+j:=by
 rcases h.sep ha hb with rfl | e | e <;> omega
theorem Wf.held {S:Hs} {B B':Nat} {L:List Tl} {ch:Nat → List Nat} (h:Wf S B L ch) {a:Nat} {v:Int} {W:List Int} (ha:a ∈ S.taken) (hv:0 ≤ v ∧ v ≤ B') (hB:B ≤ B') (hB':B' ≤ 100000) (hl:W.length=S.words.length) (hg:∀ j,ow W j=if j=a+2 then v else ow S.words j):Wf { S with words:=W } B' L ch:=by
 have pa:=h.part ha
 have g_:∀ j,j ≠ a+2 → ow W j=ow S.words j:=fun j hj=>by rw [hg,if_neg hj]
 have hs:Same (ow S.words) (ow W) S.sizes S.taken:=fun b hb=>by
  have pb:=h.part hb;refine ⟨g_ b ?_,fun i hi=>g_ _ ?_⟩
  · have:=h.ne hb ha (i:=0) (j:=2) (by omega) (by omega) (.inr (by omega))
    simpa using this
  · have:=h.ne hb ha (i:=4+i) (j:=2) (by omega) (by omega) (.inr (by omega));omega
 have hx:∀ b ∈ S.taken,∀ i,i < 4 → i ≠ 2 → ow W (b+i)=ow S.words (b+i):=fun b hb i hi hn=>by
  have pb:=h.part hb;exact g_ _ (h.ne hb ha (by omega) (by omega) (.inr hn))
 exact
 { fr:=h.fr
   lo:=by rw [show ({ S with words:=W }:Hs).words.length=S.words.length from hl];exact h.lo
   hi:=by rw [show ({ S with words:=W }:Hs).words.length=S.words.length from hl];exact h.hi
   bd:=hB'
   parts:=by
    rw [show ({ S with words:=W }:Hs).words.length=S.words.length from hl];refine h.parts.congr (g_ _ (by omega)) (fun t ht=>?_) fun t ht hf j h1 h2=>g_ _ ?_
    · cases hf:t.fr with
      | false=>
       have:t.a ∈ S.taken:=by rw [h.taken];exact mem_adsOf.2 ⟨t,ht,hf,rfl⟩
       have:=hx _ this 0 (by omega) (by omega)
       simpa using this
      | true=>
       have:=h.apart ha ht hf;have:=h.parts.lay.mem ht;exact g_ _ (by omega)
    · have:=h.apart ha ht hf;omega
   taken:=h.taken
   chains:=hs.chains h.chains (fun c hc=>g_ _ (by omega)) fun b hb=>hx b hb 3 (by omega) (by omega)
   cells:=hs.cells h.fr.toFr h.cells
   uses:=hs.uses h.uses (fun b hb=>hb) fun b hb=>hx b hb 1 (by omega) (by omega)
   holds:=fun b hb=>by
    show 0 ≤ ow W (b+2) ∧ ow W (b+2) ≤ B'
    rw [hg]
    split
    · exact hv
    · have:=h.holds b hb;omega }
theorem has_yes {S:Hs} {x:Int} (h:S.has x=true):∃ a:Nat,x=a ∧ a ∈ S.taken:=by
 unfold Hs.has at h
 simp only [Bool.and_eq_true,decide_eq_true_eq,List.contains_iff_mem] at h
 exact ⟨x.toNat,by omega,h.2⟩
theorem has_of {S:Hs} {a:Nat} (h:a ∈ S.taken):S.has (a:Int)=true:=by simp [Hs.has,h]
def widths (f:Nat → Int) (z:List Int):List Nat → Nat
 | []=>0
 | a :: r=>wz z (f a)+widths f z r
theorem widths_app (f:Nat → Int) (z:List Int):∀ P Q:List Nat,widths f z (P ++ Q)=widths f z P+widths f z Q
 | [],Q=>by simp [widths]
 | a :: P,Q=>by simp only [List.cons_append,widths,widths_app f z P Q];omega
theorem widths_le {f:Nat → Int} {z:List Int}:∀ {s n:Nat} {L:List Tl},Lay s L n → (∀ t ∈ L,t.fr=false → t.k=wz z (f t.a)) → widths f z (adsOf L)+s ≤ n
 | s,n,[],h,_=>by
  have:s=n:=h;simp [adsOf,widths,this]
 | s,n,t :: r,h,hk=>by
  obtain ⟨h1,h2,h3⟩:=h;have ih:=widths_le h3 fun u hu=>hk u (by simp [hu])
  have e:adsOf (t :: r)=(if t.fr then [] else [t.a]) ++ adsOf r:=by
   cases hf:t.fr <;> simp [adsOf,hf]
  rw [e,widths_app]
  cases hf:t.fr
  · have:=hk t (by simp) hf;simp only [Bool.false_eq_true,if_false,widths];omega
  · simp only [if_true,widths];omega
theorem Wf.widths_ {S:Hs} {B:Nat} {L:List Tl} {ch:Nat → List Nat} (h:Wf S B L ch):widths (ow S.words) S.sizes S.taken+17 ≤ S.words.length:=by
 rw [h.taken]
 exact widths_le h.parts.lay fun t ht hf=>((h.parts.ok t ht).cell hf).2
theorem kz_len {f:Nat → Int} {z:List Int} {a:Nat}:(kz f z a).length ≤ wz z (f a)-4:=by
 unfold kz
 split
 · simp
 · rw [fz_length];exact Nat.le_refl _
theorem cnt_le {f:Nat → Int} {z:List Int} (a:Nat):∀ Src:List Nat,cnt f z a Src ≤ widths f z Src
 | []=>Nat.le_refl _
 | b :: r=>by
  have:=cnt_le (f:=f) (z:=z) a r;have h1:=List.count_le_length (a:=(a:Int)) (l:=kz f z b);have h2:=kz_len (f:=f) (z:=z) (a:=b);unfold cnt widths;omega
theorem Wf.uses_le {S:Hs} {B:Nat} {L:List Tl} {ch:Nat → List Nat} (h:Wf S B L ch) {a:Nat} (ha:a ∈ S.taken):0 ≤ ow S.words (a+1) ∧ ow S.words (a+1) ≤ 100000:=by
 rw [h.uses a ha]
 have:=cnt_le (f:=ow S.words) (z:=S.sizes) a S.taken
 have:=h.widths_
 have:=h.hi
 omega
theorem cnt_perm {f:Nat → Int} {z:List Int} {a:Nat} {P Q:List Nat} (h:P.Perm Q):cnt f z a P=cnt f z a Q:=by
 induction h with
 | nil=>rfl
 | cons x _ ih=>simp only [cnt,ih]
 | swap x y l=>simp only [cnt];omega
 | trans _ _ h1 h2=>exact h1.trans h2
theorem use_spec (v:Int) (hv : -1 ≤ v ∧ v ≤ 1) (n:Nat):∀ (j:Nat) (W:List Int),j+n ≤ W.length → (∀ i,i < n → ∃ k:Nat,ow W (j+i)=(k:Int) ∧ k+1 < W.length ∧ (k+1 < j ∨ j+n ≤ k+1) ∧ -1000000000+(n:Int) ≤ ow W (k+1) ∧ ow W (k+1)+n ≤ 1000000000) →
    ∃ W',Hs.use v n j W=some W' ∧ W'.length=W.length ∧ ∀ x,ow W' x=ow W x+v * ((cut (ow W) j n).count ((x:Int)-1):Nat):=by
  induction n with
  | zero=>exact fun j W _ _=>⟨W,rfl,rfl,fun x=>by simp [cut]⟩
  | succ n ih=>
   intro j W hl h;obtain ⟨k,e,hk,hd,b1,b2⟩:=h 0 (by omega);rw [Nat.add_zero] at e;obtain ⟨W1,hw1,hl1,hg1⟩:=wr_ow (W:=W) (i:=k+1) (ow W (k+1)+v) hk;have hsame:∀ i,i < n → ow W1 (j+1+i)=ow W (j+1+i):=fun i hi=>by rw [hg1,if_neg (by omega)]
   obtain ⟨W',hw',hl',hg'⟩:=ih (j+1) W1 (by omega) (fun i hi=>by
    obtain ⟨k',e',hk',hd',c1,c2⟩:=h (i+1) (by omega);refine ⟨k', ?_,by omega,by omega, ?_, ?_⟩
    · rw [hsame i hi,← e']
      congr 1
      omega
    · rw [hg1]
      split
      · rename_i heq;rw [heq] at c1;omega
      · omega
    · rw [hg1]
      split
      · rename_i heq;rw [heq] at c2;omega
      · omega)
   refine ⟨W', ?_,hl'.trans hl1,fun x=>?_⟩
   · unfold Hs.use;rw [ra_ow (by omega) e];simp only [Option.bind_eq_bind,Option.bind_some];rw [rc_ow hk (by omega) (by omega)];simp only [Option.bind_some,hw1];exact hw'
   · have e1:cut (ow W) j (n+1)=(k:Int) :: cut (ow W) (j+1) n:=by
       unfold cut;rw [List.range_succ_eq_map,List.map_cons,List.map_map]
       congr 1
       apply List.map_congr_left;intro i _;show ow W (j+(i+1))=ow W (j+1+i)
       congr 1
       omega
     rw [hg',cut_congr hsame,hg1,e1,List.count_cons]
     by_cases hx:x=k+1
     · subst hx;have:((k:Int) == ((k+1:Nat):Int)-1)=true:=by simp
       rw [if_pos rfl,if_pos this]
       push_cast
       rw [Int.mul_add];omega
     · have:((k:Int) == ((x:Nat):Int)-1)=false:=by simp;omega
       rw [if_neg hx,this];simp
end Hp
namespace Hp
theorem lastL_lt {s n l:Nat} {L:List Tl} (h:Lay s L n) (hl:l < s):l ≤ lastL l L ∧ lastL l L < n:=by
 have hn:=h.le
 rcases @lastL_is l L with e | ⟨t,ht,_,e⟩
 · rw [e];omega
 · have:=h.mem ht;rw [e];omega
def Fits (wide:Nat) (t:Tl):Prop:=t.k=wide ∨ wide+3 ≤ t.k
def takeF (f:Nat → Int) (link:Nat) (t:Tl) (wide:Nat) (j:Nat):Int:=
 if t.a ≤ j ∧ j < t.a+wide then 0 else
 if t.k=wide then (if j=link then f (t.a+2) else f j) else
 if j=link then ((t.a+wide:Nat):Int) else if j=t.a+wide+2 then f (t.a+2) else if j=t.a+wide+1 then (t.k:Int)-wide else if j=t.a+wide then 0 else f j
theorem takeFrom_miss {W:List Int} {z:List Int} {wide:Nat} (hn:W.length ≤ 100000):∀ (Q:List Tl) (l m s:Nat),Links (ow W) l Q 0 → Lay s Q W.length → (∀ t ∈ Q,PartOk (ow W) z t) → l < s → l < W.length → (∀ t ∈ Q,t.fr=true → ¬ Fits wide t) → Q.length < m → Hs.takeFrom W wide m l=some (0,W)
 | [],l,m,s,h,_,_,_,hlt,_,hm=>by
  cases m with
  | zero=>simp at hm
  | succ m=>
   have e:ow W l=0:=h;unfold Hs.takeFrom;rw [ra_ow (a:=0) hlt (by simpa using e)];rfl
 | t :: r,l,m,s,h,hL,hp,hls,hlt,hf,hm=>by
  obtain ⟨h1,h2,h3⟩:=hL;unfold Links at h
  cases hfr:t.fr with
  | false=>
   rw [hfr] at h;simp only [Bool.false_eq_true,if_false] at h;simp only [List.length_cons] at hm;exact takeFrom_miss hn r l m _ h h3 (fun u hu=>hp u (by simp [hu])) (by omega) hlt (fun u hu=>hf u (by simp [hu])) (by omega)
  | true=>
   rw [hfr] at h;simp only [if_true] at h;simp only [List.length_cons] at hm
   cases m with
   | zero=>simp at hm
   | succ m=>
    have hle:=h3.le;have hk:=(hp t (by simp)).free hfr;have hnf:=hf t (by simp) hfr;unfold Fits at hnf;unfold Hs.takeFrom;rw [ra_ow hlt h.1];simp only [Option.bind_eq_bind,Option.bind_some];rw [if_neg (by omega:¬ t.a=0),rc_ow (by omega) (by rw [hk.2.1];omega) (by rw [hk.2.1];omega),rd_ow (by omega:t.a+2 < W.length)];simp only [Option.bind_some,hk.2.1];rw [if_neg (by omega),if_neg (by omega)];exact takeFrom_miss hn r (t.a+2) m _ h.2 h3 (fun u hu=>hp u (by simp [hu])) (by omega) (by omega) (fun u hu=>hf u (by simp [hu])) (by omega)
theorem takeFrom_hit {W:List Int} {z:List Int} {wide:Nat} (hn:W.length ≤ 100000) (hw:5 ≤ wide) {t:Tl} {Q2:List Tl} (hfr:t.fr=true) (hfit:Fits wide t):∀ (Q:List Tl) (l m s:Nat),Links (ow W) l (Q ++ t :: Q2) 0 → Lay s (Q ++ t :: Q2) W.length → (∀ v ∈ Q ++ t :: Q2,PartOk (ow W) z v) → l < s → l < W.length → (∀ t ∈ Q,t.fr=true → ¬ Fits wide t) → Q.length < m →
    ∃ W',Hs.takeFrom W wide m l=some (t.a,W') ∧ W'.length=W.length ∧ ∀ j,ow W' j=takeF (ow W) (lastL l Q) t wide j
  | [],l,m,s,h,hL,hp,hls,hlt,_,hm=>by
   cases m with
   | zero=>simp at hm
   | succ m=>
    obtain ⟨h1,h2,h3⟩:=hL;simp only [List.nil_append,Links,hfr,if_true] at h;have hle:=h3.le;have hk:=(hp t (by simp)).free hfr;unfold Hs.takeFrom;rw [ra_ow hlt h.1];simp only [Option.bind_eq_bind,Option.bind_some];rw [if_neg (by omega:¬ t.a=0),rc_ow (by omega) (by rw [hk.2.1];omega) (by rw [hk.2.1];omega),rd_ow (by omega:t.a+2 < W.length)];simp only [Option.bind_some,hk.2.1,lastL]
    by_cases hkw:t.k=wide
    · rw [if_pos (by omega)];obtain ⟨W1,e1,l1,g1⟩:=wr_ow (W:=W) (i:=l) (ow W (t.a+2)) hlt;obtain ⟨W2,e2,l2,g2⟩:=zero_ow (W:=W1) (i:=t.a) (n:=wide) (by omega);refine ⟨W2,by rw [e1];simp only [Option.bind_some,e2],l2.trans l1,fun j=>?_⟩;rw [g2,g1];unfold takeF;simp only [hkw,if_true]
    · have:wide+3 ≤ t.k:=by unfold Fits at hfit;omega
      rw [if_neg (by omega),if_pos (by omega)];obtain ⟨W1,e1,l1,g1⟩:=wr_ow (W:=W) (i:=t.a+wide) 0 (by omega);obtain ⟨W2,e2,l2,g2⟩:=wr_ow (W:=W1) (i:=t.a+wide+1) ((t.k:Int)-wide) (by omega);obtain ⟨W3,e3,l3,g3⟩:=wr_ow (W:=W2) (i:=t.a+wide+2) (ow W (t.a+2)) (by omega);obtain ⟨W4,e4,l4,g4⟩:=wr_ow (W:=W3) (i:=l) ((t.a+wide:Nat):Int) (by omega);obtain ⟨W5,e5,l5,g5⟩:=zero_ow (W:=W4) (i:=t.a) (n:=wide) (by omega);refine ⟨W5,by simp only [e1,e2,e3,e4,e5,Option.bind_some],by omega,fun j=>?_⟩;rw [g5,g4,g3,g2,g1];unfold takeF;rw [if_neg hkw]
  | u :: r,l,m,s,h,hL,hp,hls,hlt,hf,hm=>by
   obtain ⟨h1,h2,h3⟩:=hL;simp only [List.cons_append] at h;unfold Links at h
   cases hfu:u.fr with
   | false=>
    rw [hfu] at h;simp only [Bool.false_eq_true,if_false] at h;simp only [List.length_cons] at hm;have:=takeFrom_hit hn hw hfr hfit r l m _ h h3 (fun v hv=>hp v (by simp only [List.cons_append,List.mem_cons];exact .inr hv)) (by omega) hlt (fun v hv=>hf v (by simp [hv])) (by omega)
    simpa [lastL,hfu] using this
   | true=>
    rw [hfu] at h;simp only [if_true] at h;simp only [List.length_cons] at hm
    cases m with
    | zero=>simp at hm
    | succ m=>
     have hle:=h3.le;have hk:=(hp u (by simp)).free hfu;have hnf:=hf u (by simp) hfu;unfold Fits at hnf;unfold Hs.takeFrom;rw [ra_ow hlt h.1];simp only [Option.bind_eq_bind,Option.bind_some];rw [if_neg (by omega:¬ u.a=0),rc_ow (by omega) (by rw [hk.2.1];omega) (by rw [hk.2.1];omega),rd_ow (by omega:u.a+2 < W.length)];simp only [Option.bind_some,hk.2.1];rw [if_neg (by omega),if_neg (by omega)];have:=takeFrom_hit hn hw hfr hfit r (u.a+2) m _ h.2 h3 (fun v hv=>hp v (by simp only [List.cons_append,List.mem_cons];exact .inr hv)) (by omega) (by omega) (fun v hv=>hf v (by simp [hv])) (by omega)
     simpa [lastL,hfu] using this
theorem lay_len_:∀ {s n:Nat} {L:List Tl},Lay s L n → 3 * L.length+s ≤ n
 | s,n,[],h=>by
  have:s=n:=h;simp;omega
 | s,n,t :: r,h=>by
  obtain ⟨h1,h2,h3⟩:=h;have:=lay_len_ h3;simp only [List.length_cons];omega
theorem first_fit (wide:Nat):∀ L:List Tl,(∀ t ∈ L,t.fr=true → ¬ Fits wide t) ∨ ∃ P t Q,L=P ++ t :: Q ∧ (∀ u ∈ P,u.fr=true → ¬ Fits wide u) ∧ t.fr=true ∧ Fits wide t
 | []=>.inl (by simp)
 | t :: r=>by
  by_cases h:t.fr=true ∧ Fits wide t
  · exact .inr ⟨[],t,r,rfl,by simp,h.1,h.2⟩
  · rcases first_fit wide r with h' | ⟨P,u,Q,rfl,h1,h2,h3⟩
    · refine .inl fun u hu hf hx=>?_
      rcases List.mem_cons.1 hu with rfl | hu
      · exact h ⟨hf,hx⟩
      · exact h' u hu hf hx
    · refine .inr ⟨t :: P,u,Q,rfl,fun v hv hf hx=>?_,h2,h3⟩
      rcases List.mem_cons.1 hv with rfl | hv
      · exact h ⟨hf,hx⟩
      · exact h1 v hv hf hx
theorem mem_insert {a x:Nat}:∀ {T:List Nat},x ∈ Hs.insert a T ↔ x=a ∨ x ∈ T
 | []=>by simp [Hs.insert]
 | b :: r=>by
  unfold Hs.insert
  split
  · simp
  · split
    · rename_i h;subst h;simp
    · simp only [List.mem_cons,mem_insert (T:=r)];constructor
      · rintro (h | h | h)
        · exact .inr (.inl h)
        · exact .inl h
        · exact .inr (.inr h)
      · rintro (h | h | h)
        · exact .inr (.inl h)
        · exact .inl h
        · exact .inr (.inr h)
theorem up_insert {a:Nat}:∀ {T:List Nat},T.Pairwise (· < ·) → (Hs.insert a T).Pairwise (· < ·)
 | [],_=>by simp [Hs.insert]
 | b :: r,h=>by
  obtain ⟨h1,h2⟩:=List.pairwise_cons.1 h;unfold Hs.insert
  split
  · rename_i hab;refine List.pairwise_cons.2 ⟨fun c hc=>?_,h⟩
    rcases List.mem_cons.1 hc with rfl | hc
    · exact hab
    · have:=h1 c hc;omega
  · split
    · rename_i e;subst e;exact h
    · refine List.pairwise_cons.2 ⟨fun c hc=>?_,up_insert h2⟩
      rcases mem_insert.1 hc with rfl | hc
      · omega
      · exact h1 c hc
theorem up_ext:∀ {A B:List Nat},A.Pairwise (· < ·) → B.Pairwise (· < ·) → (∀ x,x ∈ A ↔ x ∈ B) → A=B
 | [],[],_,_,_=>rfl
 | [],b :: B,_,_,h=>by have:=(h b).2 (by simp);cases this
 | a :: A,[],_,_,h=>by have:=(h a).1 (by simp);cases this
 | a :: A,b :: B,ha,hb,h=>by
  obtain ⟨a1,a2⟩:=List.pairwise_cons.1 ha;obtain ⟨b1,b2⟩:=List.pairwise_cons.1 hb;have e:a=b:=by
   have ha':=(h a).1 (by simp);have hb':=(h b).2 (by simp)
   rcases List.mem_cons.1 ha' with h1 | h1
   · exact h1
   · rcases List.mem_cons.1 hb' with h2 | h2
     · exact h2.symm
     · have:=a1 b h2;have:=b1 a h1;omega
  subst e;rw [up_ext a2 b2 fun x=>?_];constructor
  · intro hx
    rcases List.mem_cons.1 ((h x).1 (by simp [hx])) with rfl | h'
    · exact absurd (a1 x hx) (Nat.lt_irrefl _)
    · exact h'
  · intro hx
    rcases List.mem_cons.1 ((h x).2 (by simp [hx])) with rfl | h'
    · exact absurd (b1 x hx) (Nat.lt_irrefl _)
    · exact h'
theorem perm_insert {a:Nat}:∀ {T:List Nat},a ∉ T → (Hs.insert a T).Perm (a :: T)
 | [],_=>List.Perm.refl _
 | b :: r,h=>by
  have h1:a ≠ b:=fun e=>h (by simp [e])
  have h2:a ∉ r:=fun e=>h (by simp [e])
  unfold Hs.insert
  split
  · exact List.Perm.refl _
  · exact ((perm_insert h2).cons b).trans (List.Perm.swap a b r)
end Hp
open Go.RowKit Go.Maps
theorem dSame_any {w:World} {p q:Option Addr} {c d:Nat} {l m:List Int} (h:SliceAt w p c l) (k:SliceAt w q d m) :
    Calls Tryz.prog 24 #[.slice p l.length c,.slice q m.length d] w fun e w'=>e = .returned (.bool (decide (l=m))) ∧ Ext w w':=by
  by_cases hne:l.length=m.length
  case neg=>
   have e:decide (l=m)=false:=by
    apply decide_eq_false;intro e;exact hne (by rw [e])
   rw [e];have hle:=h.le;have hcap:=h.cap;have hle':=k.le;have hcap':=k.cap;clear h k e;generalize l.length=a at *;generalize m.length=b at *;have e1:((a:Int) == (b:Int))=false:=by simpa using (by omega:¬ (a:Int)=b)
   go_enter Tryz.func24,Tryz.ntmps24;go_wp2;go_returns;exact ⟨rfl,exx⟩
  case pos=>
   have hle:=h.le;have hcap:=h.cap;have hcap':=k.cap;have H:=Lib.hid h;have K:=Lib.hid k;clear h k;rw [← hne];have HM:=Lib.hid hne;clear hne;generalize hL:l.length=n at hle ⊢;have HL:=Lib.hid hL;clear hL;have mixed:Tryz.prog.follows .mixedOrders=true:=by kernel_rfl
   go_enter Tryz.func24,Tryz.ntmps24;go_wp2
   go_loopg [5] n (fun g i wr=>∃ j:Nat,j ≤ n ∧ n-j ≤ g ∧ i = .int .i64 j ∧ Aside (Ext w wr) ∧ Aside (∀ i,i < j → Hp.rd l i=Hp.rd m i))
   case atStart=>exact ⟨0,Nat.zero_le _,by omega,rfl,Ext.refl w,fun m hm=>absurd hm (Nat.not_lt_zero _)⟩
   case round=>
    obtain ⟨j,hj,hg,rfl,HE,HA⟩:=hrel
    by_cases hlt:j < n
    · obtain ⟨f,hf⟩:=rd_get (l:=l) (j:=j) (by rw [HL.out];exact hlt);obtain ⟨f',hf'⟩:=rd_get (l:=m) (j:=j) (by rw [← HM.out,HL.out];exact hlt);obtain ⟨b,o,rfl,hb,hc⟩:=(H.out.ext HE.out).cells (by rw [HL.out];omega);obtain ⟨b',o',rfl,hb',hc'⟩:=(K.out.ext HE.out).cells (by rw [← HM.out,HL.out];omega);have g1:=hc j f hf;have g2:=hc' j f' hf';have HF:=Lib.hid hf;have HF':=Lib.hid hf';clear hf hc hf' hc'
      by_cases he:f=f'
      · subst he
        go_wp2_with fail
        go_region_o
        go_wp2
        go_roundg (n-(j+1))
        case measure=>omega
        case rel=>
         refine ⟨j+1,by omega,by omega,by go_num,(show Aside _ from HE.out.drew),(show Aside _ from fun i hi=>?_)⟩
         by_cases e:i=j
         · subst e;rw [HF.out,HF'.out]
         · exact HA.out i (by omega)
      · have e1:(f == f')=false:=by simpa using he
        go_wp2_with fail
        go_region_o
        go_wp2;go_returns;refine ⟨?_,HE.out.drew⟩;have e:decide (l=m)=false:=by
         apply decide_eq_false;rintro rfl;have:=HF.out;rw [HF'.out] at this
         cases this
         exact he rfl
        rw [e];rfl
    · have:j=n:=by omega
      subst this;go_wp2;go_returns;refine ⟨?_,HE.out⟩;have e:decide (l=m)=true:=decide_eq_true (eq_of_rd HM.out (by rw [HL.out];exact HA.out));rw [e];rfl
theorem dSame_is {w:World} {p q:Option Addr} {c d:Nat} {l m:List Int} {b:Bool} (hb:decide (l=m)=b) (h:SliceAt w p c l) (k:SliceAt w q d m) :
    Calls Tryz.prog 24 #[.slice p l.length c,.slice q m.length d] w fun e w'=>e = .returned (.bool b) ∧ Ext w w':=by
  subst hb;exact dSame_any h k
def lastWords:List Int:=[0,20,2,0,0,5,20,1,0,0,7,2,1,0,0,17,22,1,0,0,0,17,27]
theorem last_any (w:World):Calls Tryz.prog 58 #[] w fun e w'=>e = .returned (.slice (some ⟨w.heap.size,0,none⟩) 23 23) ∧ w'=w.alloc (.cells (ints lastWords).toArray 3):=by
 go_enter Tryz.func58,Tryz.ntmps58
 go_wp2
 go_returns
 exact ⟨rfl,rfl⟩
theorem SliceAt.two (w:World) (x y:Int) (hx : -9223372036854775808 ≤ x ∧ x ≤ 9223372036854775807) (hy : -9223372036854775808 ≤ y ∧ y ≤ 9223372036854775807) (t:TypeId):SliceAt (w.alloc (.cells #[.int .i64 x,.int .i64 y] t)) (some ⟨w.heap.size,0,none⟩) 2 [x,y]:=by
 refine ⟨by simp,by omega,fun z hz=>?_,fun _=>⟨w.heap.size,0,rfl,by simp,fun j z hj=>?_⟩⟩
 · rcases List.mem_cons.1 hz with rfl | hz
   · exact hx
   · have:z=y:=by simpa using hz
     subst this;exact hy
 · match j,hj with
   | 0,hj=>simp [Hp.rd] at hj;subst hj;simp [go_sem]
   | 1,hj=>simp [Hp.rd] at hj;subst hj;simp [go_sem]
   | j+2,hj=>simp [Hp.rd] at hj
theorem SliceAt.two_ (w:World) (g:Nat) (hg:g=w.heap.size) (x y:Int) (hx : -9223372036854775808 ≤ x ∧ x ≤ 9223372036854775807) (hy : -9223372036854775808 ≤ y ∧ y ≤ 9223372036854775807) (t:TypeId):SliceAt (w.alloc (.cells #[.int .i64 x,.int .i64 y] t)) (some ⟨g,0,none⟩) 2 [x,y]:=by
 subst hg
 exact SliceAt.two w x y hx hy t
theorem new_two {n:Nat} {W:World} {S0:Hp.Hs} {g1 g2:Nat} (hn:32 ≤ n) (hn2:n ≤ 40000) (he:Hp.newErr [2,2] [0,1] n=0) (h0:Hp.new [2,2] [0,1] n=some S0) (h1:SliceAt W (some ⟨g1,0,none⟩) 2 [2,2]) (h2:SliceAt W (some ⟨g2,0,none⟩) 2 [0,1]) :
    Calls Tryz.prog 36 #[.slice (some ⟨g1,0,none⟩) 2 2,.slice (some ⟨g2,0,none⟩) 2 2,.int .i64 n] W (NewPost W S0):=
  New_any (sizes:=[2,2]) (order:=[0,1]) h1 h2 (.inl (by simp)) (.inl (by simp)) (by simp) (by simp) hn hn2 he h0 (by simp)
def PairPost (w:World) (S:Hp.Hs) (e:Ending) (w':World):Prop:=∃ d:Hd,e = .returned (.tuple #[.pointer (some ⟨d.hb,0,none⟩),.agg #[.int .i64 17,.int .i64 22,.int .i64 27],.bool true]) ∧ HAt w' d S ∧ (∀ b ∈ d.own,w.heap.size ≤ b) ∧ Ext w w' ∧ (∀ b o,d.sp=some ⟨b,o,none⟩ → w.heap.size ≤ b) ∧ ∀ b o,d.op=some ⟨b,o,none⟩ → w.heap.size ≤ b
set_option maxRecDepth 100000 in
set_option maxHeartbeats 8000000 in
theorem pair_any {n:Nat} {w:World} {S0 S1 S2 S3:Hp.Hs} (hn:32 ≤ n) (hn2:n ≤ 40000) (he:Hp.newErr [2,2] [0,1] n=0) (h0:Hp.new [2,2] [0,1] n=some S0) (h1:S0.end' (0:Nat) 5=some (17,0,S1)) (h2:S1.end' (0:Nat) 7=some (22,0,S2)) (h3:S2.make 1 [17,22]=some (27,0,S3)) :
    Calls Tryz.prog 55 #[.int .i64 n] w (PairPost w S3):=by
  have HE:=Lib.hid he;have H0:=Lib.hid h0;have H1:=Lib.hid h1;have H2:=Lib.hid h2;have H3:=Lib.hid h3;clear he h0 h1 h2 h3;go_enter Tryz.func55,Tryz.ntmps55;have q1:SliceAt (((w.alloc (.cells #[.int .i64 0,.int .i64 0,.int .i64 0] 97)).alloc (.cells #[.int .i64 2,.int .i64 2] 3)).alloc (.cells #[.int .i64 0,.int .i64 1] 3)) (some ⟨w.heap.size+1,0,none⟩) 2 [2,2]:=(SliceAt.two_ _ _ (by simp) 2 2 (by omega) (by omega) _).ext (Ext.alloc (Ext.refl _) _);have q2:SliceAt (((w.alloc (.cells #[.int .i64 0,.int .i64 0,.int .i64 0] 97)).alloc (.cells #[.int .i64 2,.int .i64 2] 3)).alloc (.cells #[.int .i64 0,.int .i64 1] 3)) (some ⟨w.heap.size+1+1,0,none⟩) 2 [0,1]:=SliceAt.two_ _ _ (by simp) 0 1 (by omega) (by omega) _;go_upto_region 2 with (go_at_call 36;refine (new_two hn hn2 HE.out H0.out q1 q2).mono ?_;rintro e w1 ⟨d,rfl,hA1,o1,E1,s1,s2⟩)
  have EW:Ext w w1:=exx;have N1:=Lib.hid (Now.refl hA1);have O1:∀ b ∈ d.own,w.heap.size+3 ≤ b:=fun b hb=>by have:=o1 b hb;simp at this;omega
  have OH:=Lib.hid O1;have S1H:=Lib.hid (fun b o (e:d.sp=some ⟨b,o,none⟩)=>(by have:=s1 b o e;simp at this;omega:w.heap.size+3 ≤ b));have S2H:=Lib.hid (fun b o (e:d.op=some ⟨b,o,none⟩)=>(by have:=s2 b o e;simp at this;omega:w.heap.size+3 ≤ b));clear s1 s2;have z1:w.heap.size+3 ≤ w1.heap.size:=by have:=E1.le;simp at this;omega
  have bx:∀ k,k < 3 → w1.cell? ⟨w.heap.size,k,none⟩=some (.int .i64 0):=fun k hk=>by
   rw [E1.cell (by simp;omega) k];have:k=0 ∨ k=1 ∨ k=2:=by omega
   rcases this with rfl | rfl | rfl <;> simp [go_sem]
  have BX:=Lib.hid bx;have fx:∀ k,w1.frozen? ⟨w.heap.size,k,none⟩=false:=fun k=>by
   rw [E1.frozen (by simp;omega) k];simp [go_sem]
  have FX:=Lib.hid fx;clear hA1 o1 O1 E1 bx fx q1 q2;go_upto_region 3 with (go_at_call 43;refine (End_any N1.out.toHAt (f:=0) (by omega) (by omega) (by omega) H1.out).mono ?_;rintro e w2 ⟨rfl,A2⟩)
  have N2:=Lib.hid (Now.mk A2.toHAt (N1.out.but.trans A2.but));clear A2 N1;go_upto_region 4 with (go_at_call 43;refine (End_any N2.out.toHAt (f:=0) (by omega) (by omega) (by omega) H2.out).mono ?_;rintro e w3 ⟨rfl,A3⟩)
  have N3:=Lib.hid (Now.mk A3.toHAt (N2.out.but.trans A3.but));clear A3 N2;have q3:SliceAt (w3.alloc (.cells #[.int .i64 17,.int .i64 22] 3)) (some ⟨w3.heap.size,0,none⟩) 2 [17,22]:=SliceAt.two w3 17 22 (by omega) (by omega) _;have E3:Ext w3 (w3.alloc (.cells #[.int .i64 17,.int .i64 22] 3)):=Ext.alloc (Ext.refl _) _
  have M3:Calls Tryz.prog 44 #[.pointer (some ⟨d.hb,0,none⟩),.int .i64 1,.slice (some ⟨w3.heap.size,0,none⟩) 2 2] (w3.alloc (.cells #[.int .i64 17,.int .i64 22] 3)) (Added d (w3.alloc (.cells #[.int .i64 17,.int .i64 22] 3)) (27,0,S3)):=
   Make_any (l:=[17,22]) (N3.out.ext E3).toHAt q3 (fun b o e hm=>by
    cases e
    have:=N3.out.own_lt _ hm;omega) (by omega) (by omega) H3.out
  clear q3;go_upto_region 5 with (go_at_call 44;refine M3.mono ?_;rintro e w4 ⟨rfl,A4⟩)
  have N4:=Lib.hid (Now.mk A4.toHAt ((N3.out.but.ext E3).trans A4.but));have hx:w.heap.size ∉ d.own:=fun hm=>by have:=OH.out _ hm;omega
  have c0:=(N4.out.but.cell (by omega) hx 0).trans (BX.out 0 (by omega));have c1:=(N4.out.but.cell (by omega) hx 1).trans (BX.out 1 (by omega));have c2:=(N4.out.but.cell (by omega) hx 2).trans (BX.out 2 (by omega));have f0:=(N4.out.but.frozen (by omega) hx 0).trans (FX.out 0);have f1:=(N4.out.but.frozen (by omega) hx 1).trans (FX.out 1);have f2:=(N4.out.but.frozen (by omega) hx 2).trans (FX.out 2);clear A4 M3 N3 E3
  go_wp2_with fail
  have kb:But [w.heap.size] w4 (((w4.setCell ⟨w.heap.size,0,none⟩ (.int .i64 17)).setCell ⟨w.heap.size,1,none⟩ (.int .i64 22)).setCell ⟨w.heap.size,2,none⟩ (.int .i64 27)):=
   (((But.refl _ _).setCell (.inl (by simp)) _).setCell (.inl (by simp)) _).setCell (.inl (by simp)) _
  have hx2:=OH.out _ d.hb_own;have hx3:=OH.out _ d.gw_own;have hx4:=OH.out _ d.gm_own
  have A5:HAt (((w4.setCell ⟨w.heap.size,0,none⟩ (.int .i64 17)).setCell ⟨w.heap.size,1,none⟩ (.int .i64 22)).setCell ⟨w.heap.size,2,none⟩ (.int .i64 27)) d S3:=
   N4.out.toHAt.but kb (by simp;omega) (by simp;omega) (by simp;omega) (fun b o e=>by have:=S1H.out b o e;simp;omega) (fun b o e=>by have:=S2H.out b o e;simp;omega)
  have X4:Ext w w4:=But.toExt EW N4.out.but (fun b hb=>by have:=OH.out b hb;omega);refine bodyPost_ret (v:=.tuple #[.pointer (some ⟨d.hb,0,none⟩),.agg #[.int .i64 17,.int .i64 22,.int .i64 27],.bool true]) (by simp [results,Tryz.results55,go_sem, *]) rfl ⟨d,rfl,A5,(fun b hb=>by have:=OH.out b hb;omega),exx,(fun b o e=>by have:=S1H.out b o e;omega),(fun b o e=>by have:=S2H.out b o e;omega)⟩
end Go.Proofs.YtdokmmhjmclmnaaGreat
