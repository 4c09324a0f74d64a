/-
  Part 12 of a proof: PL33 LD1 LD5 LD2 LD3.
-/
import Derived.Test.YtdokmmhjmclmnaaGreatMK03
import Derived.Test.YtdokmmhjmclmnaaGreatMK10
import Derived.Test.YtdokmmhjmclmnaaGreatMK11
set_option linter.unusedSimpArgs false
set_option linter.unusedVariables false
set_option linter.unusedSectionVars false
set_option linter.unnecessarySimpa false
namespace Go.Proofs.YtdokmmhjmclmnaaGreat
variable {W' w w' w0:World} {B a b base c ca cap f g i j k k1 k2 m n oc sb sc:Nat} {choice e t x:Int} {W fs l o z:List Int} {A T:List Nat} {op p p1 p2 pa pe pn q sp:Option Addr} {d:Hd} {S S':Hp.Hs} {L:List Hp.Tl} {M:List (Nat × Int)} {s s':Hp.Sc} {acts:List Hp.Act'}
namespace Hp
structure Dg where
 known:List (Nat × Int)
 ends:List (Int × Int)
 nodes:List (Int × List Int)
def refs (go:Nat->Dg->Option (Int × Dg)):List Nat->Dg->Option (List Int × Dg)
 | [],D=>some ([],D)
 | k :: r,D=>do
  let (x,D) <- go k D
  let (xs,D) <- refs go r D
  some (x :: xs,D)
namespace Hs
def from' (S:Hs):Nat->Nat->Dg->Option (Int × Dg)
 | 0,_,_=>none
 | n+1,a,D=>
  match getI a D.known with
  | some x=>some (x,D)
  | none=>
   let t:=ow S.words a
   if isEnd t then
    let x:Int:=-((D.ends.length:Int)+1)
    some (x,{ D with ends:=D.ends ++ [(t-20,ow S.words (a+4))],known:=putI a x D.known })
   else do
    let (xs,D) <- refs (S.from' n) ((fz (ow S.words) S.sizes a).map Int.toNat) D
    some ((D.nodes.length:Int),{ D with nodes:=D.nodes ++ [(t-1,xs)],known:=putI a D.nodes.length D.known })
def diagram (S:Hs) (a:Nat):Option (Int × Dg):=S.from' (S.order.length+2) a ⟨[],[],[]⟩
end Hs
structure Like (S S':Hs) (T:List Nat) (m:Nat->Nat):Prop where
 tag:∀ a ∈ T,ow S'.words (m a)=ow S.words a
 endw:∀ a ∈ T,isEnd (ow S.words a)=true->ow S'.words (m a+4)=ow S.words (a+4)
 kids:∀ a ∈ T,isEnd (ow S.words a)=false->(fz (ow S'.words) S'.sizes (m a)).map Int.toNat=((fz (ow S.words) S.sizes a).map Int.toNat).map m
 closed:∀ a ∈ T,isEnd (ow S.words a)=false -> ∀ k ∈ (fz (ow S.words) S.sizes a).map Int.toNat,k ∈ T
 inj:∀ a ∈ T,∀ b ∈ T,m a=m b->a=b
structure Also (T:List Nat) (m:Nat->Nat) (D D':Dg):Prop where
 ends:D'.ends=D.ends
 nodes:D'.nodes=D.nodes
 up:KeysUp D.known
 up':KeysUp D'.known
 known:∀ a ∈ T,getI (m a) D'.known=getI a D.known
theorem Also.put {m:Nat->Nat} {D D':Dg} (h:Also T m D D') (hi:∀ a ∈ T,∀ b ∈ T,m a=m b->a=b) (ha:a ∈ T) (x:Int) {E:List (Int × Int)} {N:List (Int × List Int)} :
    Also T m ⟨putI a x D.known,E,N⟩ ⟨putI (m a) x D'.known,E,N⟩:=by
  refine ⟨rfl,rfl,keysUp_put h.up,keysUp_put h.up',fun b hb=>?_⟩;show getI (m b) (putI (m a) x D'.known)=getI b (putI a x D.known);rw [getI_put h.up',getI_put h.up,h.known b hb]
  by_cases e:b=a
  . subst e;simp
  rw [if_neg e,if_neg (fun e'=>e (hi b hb a ha e'))]
theorem refs_also {T:List Nat} {m:Nat->Nat} {f g:Nat->Dg->Option (Int × Dg)} (ih:∀ a ∈ T,∀ D D' x D1,Also T m D D'->f a D=some (x,D1) -> ∃ D1',g (m a) D'=some (x,D1')/\Also T m D1 D1') :
    ∀ (l:List Nat) (D D':Dg) (xs:List Int) (D1:Dg),(∀ k ∈ l,k ∈ T)->Also T m D D'->refs f l D=some (xs,D1) -> ∃ D1',refs g (l.map m) D'=some (xs,D1')/\Also T m D1 D1'
  | [],D,D',xs,D1,_,h,e=>by
   simp only [refs,Option.some.injEq,Prod.mk.injEq] at e;obtain ⟨rfl,rfl⟩:=e;exact ⟨D',rfl,h⟩
  | k :: r,D,D',xs,D1,hl,h,e=>by
   simp only [refs,Option.bind_eq_bind,Option.bind_eq_some_iff,Prod.exists,Option.some.injEq,Prod.mk.injEq] at e;obtain ⟨x,D2,e1,ys,D3,e2,rfl,rfl⟩:=e;obtain ⟨D2',g1,h2⟩:=ih k (hl k (by simp)) D D' x D2 h e1;obtain ⟨D3',g2,h3⟩:=refs_also ih r D2 D2' ys D3 (fun k hk=>hl k (by simp [hk])) h2 e2;exact ⟨D3',by simp [refs,g1,g2],h3⟩
theorem from_also {S S':Hs} {T:List Nat} {m:Nat->Nat} (L:Like S S' T m):∀ (n:Nat) (a:Nat),a ∈ T -> ∀ (D D':Dg) (x:Int) (D1:Dg),Also T m D D'->S.from' n a D=some (x,D1) -> ∃ D1',S'.from' n (m a) D'=some (x,D1')/\Also T m D1 D1'
 | 0,_,_,_,_,_,_,_,e=>by simp [Hs.from'] at e
 | n+1,a,ha,D,D',x,D1,h,e=>by
  unfold Hs.from' at e ⊢
  rw [h.known a ha]
  cases hk:getI a D.known with
  | some y=>
   rw [hk] at e;simp only [Option.some.injEq,Prod.mk.injEq] at e;obtain ⟨rfl,rfl⟩:=e;exact ⟨D',rfl,h⟩
  | none=>
   rw [hk] at e;simp only at e ⊢;rw [L.tag a ha]
   cases he:isEnd (ow S.words a) with
   | true=>
    rw [he] at e;simp only [if_true,Option.some.injEq,Prod.mk.injEq] at e ⊢;obtain ⟨rfl,rfl⟩:=e;rw [h.ends,h.nodes,L.endw a ha he];exact ⟨_,⟨rfl,rfl⟩,h.put L.inj ha _⟩
   | false=>
    rw [he] at e;simp only [Bool.false_eq_true,if_false,Option.bind_eq_bind,Option.bind_eq_some_iff,Prod.exists,Option.some.injEq,Prod.mk.injEq] at e ⊢;obtain ⟨xs,D2,e1,rfl,rfl⟩:=e;obtain ⟨D2',g1,h2⟩:=refs_also (fun b hb D D' x D1 h e=>from_also L n b hb D D' x D1 h e) _ D D' xs D2 (L.closed a ha he) h e1;rw [L.kids a ha he];refine ⟨_,⟨xs,D2',g1,by rw [h2.nodes],rfl⟩, ?_⟩;rw [h2.ends,h2.nodes];exact h2.put L.inj ha _
theorem diagram_like {m:Nat->Nat} (L:Like S S' T m) (ho:S'.order.length=S.order.length) (ha:a ∈ T) {D:Dg} (h:S.diagram a=some (x,D)) :
    ∃ D',S'.diagram (m a)=some (x,D')/\D'.ends=D.ends/\D'.nodes=D.nodes:=by
  unfold Hs.diagram at h ⊢;rw [ho];obtain ⟨D',h1,h2⟩:=from_also L _ a ha ⟨[],[],[]⟩ ⟨[],[],[]⟩ x D ⟨rfl,rfl,List.Pairwise.nil,List.Pairwise.nil,fun _ _=>rfl⟩ h;exact ⟨D',h1,h2.ends,h2.nodes⟩
structure DgOk (S:Hs) (D:Dg):Prop where
 up:KeysUp D.known
 keys:∀ p ∈ D.known,p.1 ∈ S.taken
 many:D.ends.length+D.nodes.length=D.known.length
 refs:∀ p ∈ D.known,-(D.ends.length:Int)<=p.2/\p.2 < D.nodes.length
 kids:∀ q ∈ D.nodes,∀ x ∈ q.2,-(D.ends.length:Int)<=x/\x < D.nodes.length
def DgLe (D D1:Dg):Prop:=D.ends <+: D1.ends/\D.nodes <+: D1.nodes
theorem DgLe.refl (D:Dg):DgLe D D:=⟨List.prefix_refl _,List.prefix_refl _⟩
theorem DgLe.trans {D D1 D2:Dg} (h:DgLe D D1) (k:DgLe D1 D2):DgLe D D2:=⟨h.1.trans k.1,h.2.trans k.2⟩
theorem DgLe.le {D D1:Dg} (h:DgLe D D1):D.ends.length<=D1.ends.length/\D.nodes.length<=D1.nodes.length:=⟨h.1.length_le,h.2.length_le⟩
theorem putI_len {k:Nat} {x:Int}:∀ {M:List (Nat × Int)},KeysUp M->getI k M=none->(putI k x M).length=M.length+1
 | [],_,_=>rfl
 | (j,y) :: r,hu,h=>by
  obtain ⟨h1,h2⟩:=List.pairwise_cons.1 hu;unfold getI at h
  by_cases e:j=k
  . rw [if_pos e] at h
    cases h
  rw [if_neg e] at h;unfold putI
  split
  . simp
  split
  . rename_i e';exact absurd e'.symm e
  have:=putI_len h2 h (x:=x);simp [this]
theorem mem_putI {k:Nat} {x:Int}:∀ {M:List (Nat × Int)} {p:Nat × Int},p ∈ putI k x M->p=(k,x) \/ p ∈ M
 | [],p,h=>by
  left
  simpa [putI] using h
 | (j,y) :: r,p,h=>by
  unfold putI at h
  split at h
  . rcases List.mem_cons.1 h with h | h
    . exact .inl h
    exact .inr h
  split at h
  . rcases List.mem_cons.1 h with h | h
    . exact .inl h
    exact .inr (by simp [h])
  rcases List.mem_cons.1 h with h | h
  . exact .inr (by simp [h])
  rcases mem_putI h with h | h
  . exact .inl h
  exact .inr (by simp [h])
theorem getI_in {k:Nat} {x:Int}:∀ {M:List (Nat × Int)},getI k M=some x->(k,x) ∈ M
 | [],h=>by cases h
 | (j,y) :: r,h=>by
  unfold getI at h
  split at h
  . rename_i e;subst e
    cases h
    simp
  simp [getI_in h]
theorem DgOk.end_ {D:Dg} (h:DgOk S D) (ha:a ∈ S.taken) (hk:getI a D.known=none) (v:Int × Int) :
    DgOk S ⟨putI a (-((D.ends.length:Int)+1)) D.known,D.ends ++ [v],D.nodes⟩:=by
  refine ⟨keysUp_put h.up,fun p hp=>?_, ?_,fun p hp=>?_,fun q hq x hx=>?_⟩
  . rcases mem_putI hp with rfl | hp
    . exact ha
    exact h.keys p hp
  . rw [putI_len h.up hk,<- h.many];simp;omega
  . simp only [List.length_append,List.length_cons,List.length_nil]
    rcases mem_putI hp with rfl | hp
    . simp only;omega
    have:=h.refs p hp;omega
  have:=h.kids q hq x hx;simp only [List.length_append,List.length_cons,List.length_nil];omega
theorem DgOk.node_ {D:Dg} (h:DgOk S D) (ha:a ∈ S.taken) (hk:getI a D.known=none) (t:Int) {xs:List Int} (hx:∀ x ∈ xs,-(D.ends.length:Int)<=x/\x < D.nodes.length) :
    DgOk S ⟨putI a D.nodes.length D.known,D.ends,D.nodes ++ [(t,xs)]⟩:=by
  refine ⟨keysUp_put h.up,fun p hp=>?_, ?_,fun p hp=>?_,fun q hq x hx'=>?_⟩
  . rcases mem_putI hp with rfl | hp
    . exact ha
    exact h.keys p hp
  . rw [putI_len h.up hk,<- h.many];simp;omega
  . simp only [List.length_append,List.length_cons,List.length_nil]
    rcases mem_putI hp with rfl | hp
    . simp only;omega
    have:=h.refs p hp;omega
  simp only [List.length_append,List.length_cons,List.length_nil]
  rcases List.mem_append.1 hq with hq | hq
  . have:=h.kids q hq x hx';omega
  simp only [List.mem_singleton] at hq;subst hq;have:=hx x hx';omega
theorem known_few {D:Dg} (h:DgOk S D) (hb:∀ a ∈ S.taken,a < n):D.known.length<=n:=by
 have h1:(D.known.map Prod.fst).Pairwise (· < ·):=by
  rw [List.pairwise_map];exact h.up
 have:=sorted_len h1 (n:=n) fun x hx=>by
  obtain ⟨p,hp,rfl⟩:=List.mem_map.1 hx;exact hb _ (h.keys p hp)
 simpa using this
def rk (S:Hs) (a:Nat):Int:=rank S.order (ow S.words a)
structure FromTo (S:Hs) (a:Nat) (D:Dg) (x:Int) (D1:Dg):Prop where
 ok:DgOk S D1
 le:DgLe D D1
 lo : -(D1.ends.length:Int)<=x
 hi:x < D1.nodes.length
 old:∀ b,(getI b D1.known).isSome=true->(getI b D.known).isSome=true \/ rk S a<=rk S b
theorem refs_total {S:Hs} {f:Nat->Dg->Option (Int × Dg)} {r:Int}:∀ (l:List Nat) (D:Dg),(∀ k ∈ l,k ∈ S.taken/\r < rk S k)->(∀ k ∈ l,∀ D,DgOk S D -> ∃ x D1,f k D=some (x,D1)/\FromTo S k D x D1)->DgOk S D ->
    ∃ xs D1,refs f l D=some (xs,D1)/\xs.length=l.length/\DgOk S D1/\DgLe D D1/\(∀ x ∈ xs,-(D1.ends.length:Int)<=x/\x < D1.nodes.length) /\ ∀ b,(getI b D1.known).isSome=true->(getI b D.known).isSome=true \/ r < rk S b
  | [],D,_,_,h=>⟨[],D,rfl,rfl,h,DgLe.refl D,by simp,fun b hb=>.inl hb⟩
  | k :: l,D,hl,hf,h=>by
   obtain ⟨x,D1,e1,h1⟩:=hf k (by simp) D h;obtain ⟨xs,D2,e2,q0,q1,q2,q3,q4⟩:=refs_total l D1 (fun k hk=>hl k (by simp [hk])) (fun k hk=>hf k (by simp [hk])) h1.ok;have hle:=q2.le;refine ⟨x :: xs,D2,by simp [refs,e1,e2],by simp [q0],q1,h1.le.trans q2,fun y hy=>?_,fun b hb=>?_⟩
   . rcases List.mem_cons.1 hy with rfl | hy
     . have:=h1.lo;have:=h1.hi;omega
     exact q3 y hy
   rcases q4 b hb with hb | hb
   . rcases h1.old b hb with hb | hb
     . exact .inl hb
     have:=(hl k (by simp)).2;exact .inr (by omega)
   exact .inr hb
theorem index_lo (l:List Int) (x:Int) : -1<=index l x:=by
 unfold index
 split <;> omega
theorem rank_lo (o:List Int) (t:Int) : -1<=rank o t:=by
 unfold rank
 split
 . omega
 exact index_lo _ _
theorem rank_hi {ch:Nat->List Nat} (_:Wf S B L ch) (_:a ∈ S.taken):rk S a<=S.order.length:=by
 unfold rk rank
 split
 . omega
 unfold index
 split
 . rename_i i hi;have:=(List.findIdx?_eq_some_iff_getElem.1 hi).1;omega
 omega
theorem isSome_putI (hM:KeysUp M) (h:(getI b (putI a x M)).isSome=true):b=a \/ (getI b M).isSome=true:=by
 rw [getI_put hM] at h
 by_cases e:b=a
 . exact .inl e
 rw [if_neg e] at h
 exact .inr h
theorem Wf.kid_in {ch:Nat->List Nat} (h:Wf S B L ch) (ha:a ∈ S.taken) (he:isEnd (ow S.words a)=false):∀ k ∈ (fz (ow S.words) S.sizes a).map Int.toNat,k ∈ S.taken/\rk S a < rk S k:=by
 intro k hk
 obtain ⟨x,hx,rfl⟩:=List.mem_map.1 hk
 obtain ⟨b,hb,rfl,hr⟩:=h.cells.kids a ha x (by simpa [kz,he] using hx)
 exact ⟨by simpa using hb,by simpa [rk] using hr⟩
theorem from_total {S:Hs} {B:Nat} {L:List Tl} {ch:Nat->List Nat} (h:Wf S B L ch):∀ (n:Nat) (a:Nat),a ∈ S.taken->(S.order.length:Int)-rk S a < n -> ∀ D,DgOk S D -> ∃ x D1,S.from' n a D=some (x,D1)/\FromTo S a D x D1
 | 0,a,ha,hn,D,hD=>by
  exfalso;have:rk S a<=S.order.length:=rank_hi h ha;omega
 | n+1,a,ha,hn,D,hD=>by
  unfold Hs.from'
  cases hk:getI a D.known with
  | some y=>
   have:=hD.refs _ (getI_in hk);exact ⟨y,D,rfl,hD,DgLe.refl D,this.1,this.2,fun b hb=>.inl hb⟩
  | none=>
   simp only
   cases he:isEnd (ow S.words a) with
   | true=>
    simp only [if_true];refine ⟨_,_,rfl,hD.end_ ha hk _,⟨List.prefix_append _ _,List.prefix_refl _⟩,by simp,by simp;omega,fun b hb=>?_⟩
    rcases isSome_putI hD.up hb with rfl | hb
    . exact .inr (Int.le_refl _)
    exact .inl hb
   | false=>
    simp only [Bool.false_eq_true,if_false];have hkid:=h.kid_in ha he;obtain ⟨xs,D1,e1,q0,q1,q2,q3,q4⟩:=refs_total (S:=S) (f:=S.from' n) (r:=rk S a) _ D hkid (fun k hk D hD=>from_total h n k (hkid k hk).1 (by have:=(hkid k hk).2;omega) D hD) hD;have hn1:getI a D1.known=none:=by
     cases hq:getI a D1.known with
     | none=>rfl
     | some y=>
      rcases q4 a (by rw [hq];rfl) with h1 | h1
      . rw [hk] at h1
        cases h1
      omega
    simp only [Option.bind_eq_bind,e1,Option.bind_some];refine ⟨_,_,rfl,q1.node_ ha hn1 _ q3,q2.trans ⟨List.prefix_refl _,List.prefix_append _ _⟩,by simp only;omega,by simp only [List.length_append,List.length_cons,List.length_nil];omega,fun b hb=>?_⟩
    rcases isSome_putI q1.up hb with rfl | hb
    . exact .inr (Int.le_refl _)
    rcases q4 b hb with hb | hb
    . exact .inl hb
    exact .inr (by omega)
theorem diagram_total {ch:Nat->List Nat} (h:Wf S B L ch) (ha:a ∈ S.taken):∃ x D,S.diagram a=some (x,D)/\FromTo S a ⟨[],[],[]⟩ x D:=
 from_total h _ a ha (by have:=rank_lo S.order (ow S.words a);unfold rk;omega) ⟨[],[],[]⟩ ⟨List.Pairwise.nil,by simp,rfl,by simp,by simp⟩
end Hp
open Go.RowKit Go.Maps
structure RdN (w:World) (n:Nat) (p:Option Addr) (c:Nat) (X:List (List Value)):Prop where
 le:X.length<=c
 cap:c<=9223372036854775807
 cells:0 < X.length -> ∃ b o,p=some ⟨b,o,none⟩/\b < w.heap.size /\ ∀ j x i v,X[j]? = some x->x[i]? = some v->w.cell? ⟨b,o+(j * n+i),none⟩=some v
namespace RdN
variable {w w':World} {n c:Nat} {p:Option Addr} {X:List (List Value)}
theorem but (h:RdN w n p c X) {l:List Nat} (k:But l w w') (hf:∀ b o,p=some ⟨b,o,none⟩->b ∉ l):RdN w' n p c X:=by
 refine ⟨h.le,h.cap,fun h0=>?_⟩
 obtain ⟨b,o,rfl,hb,hc⟩:=h.cells h0
 exact ⟨b,o,rfl,Nat.lt_of_lt_of_le hb k.size,fun j x i v hx hv=>(k.cell hb (hf b o rfl) _).trans (hc j x i v hx hv)⟩
theorem ext (h:RdN w n p c X) (k:Ext w w'):RdN w' n p c X:=h.but (l:=[]) (But.ofExt k) (by simp)
end RdN
structure RowN (w:World) (n:Nat) (t:TypeId) (p:Option Addr) (c:Nat) (X:List (List Value)):Prop where
 own:w.ownsRow 0 t n (.slice p X.length c) X.length X.flatten
 len:∀ x ∈ X,x.length=n
theorem flatten_get {n:Nat}:∀ {X:List (List Value)} {j i:Nat} {x:List Value} {v:Value},(∀ x ∈ X,x.length=n)->X[j]? = some x->x[i]? = some v->X.flatten[j * n+i]? = some v
 | [],_,_,_,_,_,h,_=>by simp at h
 | y :: r,0,i,x,v,hl,hx,hv=>by
  simp only [List.getElem?_cons_zero,Option.some.injEq] at hx;subst hx;rw [List.flatten_cons,Nat.zero_mul,Nat.zero_add,List.getElem?_append_left (List.getElem?_eq_some_iff.1 hv).1];exact hv
 | y :: r,j+1,i,x,v,hl,hx,hv=>by
  have e:=hl y (by simp);rw [List.flatten_cons,List.getElem?_append_right (by rw [e,Nat.succ_mul];omega),e,show (j+1) * n+i-n=j * n+i by rw [Nat.succ_mul];omega];exact flatten_get (fun x hx=>hl x (by simp [hx])) (by simpa using hx) hv
namespace RowN
variable {w w':World} {n c:Nat} {t:TypeId} {p:Option Addr} {X:List (List Value)}
theorem nil (w:World) (n:Nat) (t:TypeId):RowN w n t none 0 []:=⟨World.ownsRow_nil w _ _ _,by simp⟩
theorem ptr (h:RowN w n t p c X) {o:Nat} (e:p=some ⟨b,o,none⟩):o=0/\b < w.heap.size:=by
 rcases h.own.2 with ⟨e',_⟩ | ⟨g,cap,cur,e',hb,hg,_⟩
 . injection e' with e1
   rw [e] at e1
   cases e1
 injection e' with e1
 rw [e] at e1
 cases e1
 exact ⟨rfl,(Array.getElem?_eq_some_iff.1 hg).1⟩
theorem rd (h:RowN w n t p c X):RdN w n p c X:=by
 rcases h.own.2 with ⟨e,hz⟩ | ⟨g,cap,cur,e,hb,hg,r1,r2,r3,r4⟩
 . injection e with e1 e2 e3
   exact ⟨by omega,by omega,fun h0=>by omega⟩
 injection e with e1 e2 e3
 subst e1 e3
 refine ⟨r1,by unfold maxLen at r2;omega,fun _=>⟨g,0,rfl,(Array.getElem?_eq_some_iff.1 hg).1,fun j x i v hx hv=>?_⟩⟩
 have:=h.own.cells (g:=g) rfl (j * n+i) v (flatten_get h.len hx hv)
 rw [Addr.add_lit] at this
 exact this
theorem but (h:RowN w n t p c X) {l:List Nat} (k:But l w w') (hf:∀ b o,p=some ⟨b,o,none⟩->b ∉ l):RowN w' n t p c X:=by
 refine ⟨⟨h.own.1, ?_⟩,h.len⟩
 rcases h.own.2 with e | ⟨g,cap,cur,e,hb,hg,r⟩
 . exact .inl e
 refine .inr ⟨g,cap,cur,e,hb, ?_,r⟩
 have hl:=(Array.getElem?_eq_some_iff.1 hg).1
 have e1:p=some ⟨g,0,none⟩:=by
  injection e
 rw [k.block g hl (hf g 0 e1)]
 exact hg
theorem ext (h:RowN w n t p c X) (k:Ext w w'):RowN w' n t p c X:=h.but (l:=[]) (But.ofExt k) (by simp)
theorem own_blk (h:RowN w n t p c X):∀ r,(Value.slice p X.length c).ownBlock=some r->p=some ⟨r,0,none⟩:=fun r hr=>by
 rcases h.own.2 with ⟨e',_⟩ | ⟨g',cap',cur',e',_⟩
 . injection e' with e1
   subst e1;simp [Value.ownBlock] at hr
 injection e' with e1
 subst e1
 have:g'=r:=by simpa [Value.ownBlock] using hr
 rw [this]
end RowN
theorem wpList_append_N {w:World} {ops:Array Oper} {rest:List Oper} {o:Oper} {a:Act} {Q:Exit->Act->World->Prop} (hgd:o.guard=none) (s x:Operand) (T t:TypeId)
    (ho:o.op = .call { callee:=.builtin .append,args:=#[s,x],argTypes:=#[T,T] }) {z:Value} {n bytes:Nat} (hT:Tryz.prog.underlying T=some (.slice t)) (hinfo:(Tryz.prog.info? t).map (fun i=>(i.zero,i.size,i.bytes))=some (some z,n,bytes)) (hzn:z.cells.size=n) (hn0:0 < n) (hby:bytes<=1000)
    {c b m:Nat} {p:Option Addr} {X:List (List Value)} {y:List Value} (hm:X.length=m) (hs:a.eval s = .slice p m c) (hx:a.eval x = .slice (some ⟨b,0,none⟩) 1 1)
    (hrow:RowN w n t p c X) (hyl:y.length=n) (hy:∀ i v,y[i]? = some v->w.cell? ⟨b,i,none⟩=some v) (hone:∀ v ∈ y,v.oneCell'=true) (hlen:m < 10000000)
    (h:∀ g cap w' row,RowN w' n t (some ⟨g,0,none⟩) cap (X ++ [y])->w.grownBy w' row->(∀ r,row=some r->p=some ⟨r,0,none⟩)->(p=some ⟨g,0,none⟩ \/ g=w.heap.size)->g < w'.heap.size->wpList Tryz.prog ops Q rest (a.put o.dst (.slice (some ⟨g,0,none⟩) (m+1) cap)) w'):wpList Tryz.prog ops Q (o :: rest) a w:=by
  subst hm;obtain ⟨i0,hi,hz0,hz1,hz2⟩:=info_parts hinfo;refine wpList_append_lies w hgd s x T ho 0 t i0 z n bytes hT hi hz0 hz1 hz2 hzn hn0 _ _ _ hs hrow.own ⟨b,0,none⟩ 1 1 y hx (by rw [hyl,Nat.one_mul]) (fun j u hj=>?_) hone (by omega) (by unfold maxLen;omega) (Nat.le_trans (Nat.mul_le_mul (show X.length+1<=10000000 by omega) hby) (by decide)) (Nat.zero_le _) _ rfl ?_
  . rw [Addr.add_lit]
    simpa using hy j u hj
  intro g cap w' hown hgrow hor hlt;have own:=hrow.own_blk;refine h g cap w' _ ⟨by simpa using hown,fun u hu=>?_⟩ hgrow own (hor.imp (own g) id) hlt
  rcases List.mem_append.1 hu with hu | hu
  . exact hrow.len u hu
  rw [List.mem_singleton.1 hu];exact hyl
def blk:Option Addr->List Nat
 | some a=>[a.block]
 | none=>[]
theorem mem_blk {o:Nat} (e:p=some ⟨b,o,none⟩):b ∈ blk p:=by subst e;simp [blk]
def endC (v:Int × Int):List Value:=[.int .u8 v.1,.int .i64 v.2]
def nodeC (q:Int × List Int) (k:Option Addr × Nat):List Value:=[.int .i64 q.1,.slice k.1 q.2.length k.2]
structure DgL where
 ps:Option Addr
 cs:Nat
 po:Option Addr
 co:Nat
 pe:Option Addr
 ce:Nat
 pn:Option Addr
 cn:Nat
 K:List (Option Addr × Nat)
def DgL.blocks (L:DgL):List Nat:=blk L.ps ++ blk L.po ++ blk L.pe ++ blk L.pn ++ L.K.flatMap (fun k=>blk k.1)
def DgL.cells (L:DgL) (zs os es ns:Nat) (x:Int):Array Value:=#[.slice L.ps zs L.cs,.slice L.po os L.co,.slice L.pe es L.ce,.slice L.pn ns L.cn,.int .i64 x]
structure DgRd (w:World) (L:DgL) (z o:List Int) (E:List (Int × Int)) (N:List (Int × List Int)):Prop where
 s:SliceAt w L.ps L.cs z
 o:SliceAt w L.po L.co o
 e:RdN w 2 L.pe L.ce (E.map endC)
 n:RdN w 2 L.pn L.cn (List.zipWith nodeC N L.K)
 kl:L.K.length=N.length
 ks:∀ (j:Nat) (q:Int × List Int) (k:Option Addr × Nat),N[j]? = some q->L.K[j]? = some k->SliceAt w k.1 k.2 q.2
theorem DgRd.but {L:DgL} {E:List (Int × Int)} {N:List (Int × List Int)} (h:DgRd w L z o E N) {l:List Nat} (k:But l w w') (hl:∀ b ∈ l,b ∉ L.blocks):DgRd w' L z o E N:=by
 have key:∀ b,b ∈ L.blocks->b ∉ l:=fun b hb hm=>hl b hm hb
 refine ⟨h.s.but k fun b o e=>key b ?_,h.o.but k fun b o e=>key b ?_,h.e.but k fun b o e=>key b ?_,h.n.but k fun b o e=>key b ?_,h.kl,fun j q kk hq hk=>(h.ks j q kk hq hk).but k fun b o e=>key b ?_⟩
 all_goals simp only [DgL.blocks,List.mem_append,List.mem_flatMap]
 . exact .inl (.inl (.inl (.inl (mem_blk e))))
 . exact .inl (.inl (.inl (.inr (mem_blk e))))
 . exact .inl (.inl (.inr (mem_blk e)))
 . exact .inl (.inr (mem_blk e))
 exact .inr ⟨kk,List.mem_of_getElem? hk,mem_blk e⟩
theorem DgRd.ext {L:DgL} {E:List (Int × Int)} {N:List (Int × List Int)} (h:DgRd w L z o E N) (k:Ext w w'):DgRd w' L z o E N:=h.but (l:=[]) (But.ofExt k) (by simp)
open Go.RowKit Go.Maps
structure Dd where
 hb:Nat
 kb:Nat
 hx:Nat
 gd:Nat
 fb:Nat
 gk:Nat
 v0:Value
 v1:Value
 v4:Value
def Dd.dyn (i:Dd) (pe pn:Option Addr):List Nat:=i.gk :: i.gd :: (blk pe ++ blk pn)
def Dd.fixed (i:Dd):List Nat:=[i.kb,i.hx,i.fb]
def Dd.fv (i:Dd):Value:=.func (.func 81) #[] #[.pointer (some ⟨i.kb,0,none⟩),.pointer (some ⟨i.hx,0,none⟩),.pointer (some ⟨i.gd,0,none⟩),.pointer (some ⟨i.fb,0,none⟩)]
structure DgSt (wb w:World) (i:Dd) (D:Hp.Dg) (pe:Option Addr) (ce:Nat) (pn:Option Addr) (cn:Nat) (K:List (Nat × Nat)):Prop where
 ext:Ext wb w
 k:w.cell? ⟨i.kb,0,none⟩=some (.map (some i.gk))
 h:w.cell? ⟨i.hx,0,none⟩=some (.pointer (some ⟨i.hb,0,none⟩))
 f:w.cell? ⟨i.fb,0,none⟩=some i.fv
 d2:w.cell? ⟨i.gd,2,none⟩=some (.slice pe D.ends.length ce)
 d3:w.cell? ⟨i.gd,3,none⟩=some (.slice pn D.nodes.length cn)
 d0:w.cell? ⟨i.gd,0,none⟩=some i.v0
 d1:w.cell? ⟨i.gd,1,none⟩=some i.v1
 d4:w.cell? ⟨i.gd,4,none⟩=some i.v4
 z:∀ o,w.frozen? ⟨i.gd,o,none⟩=false
 z2:w.frozen? ⟨i.gd,2,none⟩=false
 z3:w.frozen? ⟨i.gd,3,none⟩=false
 map:MapIAt Tryz.prog w i.gk D.known
 er:RowN w 2 43 pe ce (D.ends.map endC)
 nr:RowN w 2 41 pn cn (List.zipWith (fun q k=>nodeC q (some ⟨k.1,0,none⟩,k.2)) D.nodes K)
 kl:K.length=D.nodes.length
 ks:∀ (j:Nat) (q:Int × List Int) (k:Nat × Nat),D.nodes[j]? = some q->K[j]? = some k->SliceAt w (some ⟨k.1,0,none⟩) k.2 q.2
 lo:∀ b ∈ i.fixed ++ i.dyn pe pn ++ K.map Prod.fst,wb.heap.size<=b/\b < w.heap.size
 fx:∀ b ∈ i.fixed,b ∉ i.dyn pe pn/\b ∉ K.map Prod.fst
 kx:∀ k ∈ K,k.1 ∉ i.dyn pe pn
 nd:i.gk ≠ i.gd/\i.gk ∉ blk pe/\i.gk ∉ blk pn/\i.gd ∉ blk pe/\i.gd ∉ blk pn /\ ∀ b ∈ blk pe,b ∉ blk pn
namespace DgSt
variable {wb w w':World} {i:Dd} {D:Hp.Dg} {pe pn:Option Addr} {ce cn:Nat} {K:List (Nat × Nat)}
theorem gk_dyn (i:Dd) (pe pn:Option Addr):i.gk ∈ i.dyn pe pn:=by simp [Dd.dyn]
theorem gd_dyn (i:Dd) (pe pn:Option Addr):i.gd ∈ i.dyn pe pn:=by simp [Dd.dyn]
theorem pe_dyn (i:Dd) (h:b ∈ blk pe):b ∈ i.dyn pe pn:=by simp [Dd.dyn,h]
theorem pn_dyn (i:Dd) (h:b ∈ blk pn):b ∈ i.dyn pe pn:=by simp [Dd.dyn,h]
theorem far (h:DgSt wb w i D pe ce pn cn K) {l:List Nat} (k:But l w w') (hw:∀ b ∈ l,wb.heap.size<=b) (hl:∀ b ∈ l,b ∉ i.fixed/\b ∉ i.dyn pe pn/\b ∉ K.map Prod.fst):DgSt wb w' i D pe ce pn cn K:=by
 have f1:∀ b ∈ i.fixed,b ∉ l:=fun b hb hm=>(hl b hm).1 hb
 have f2:∀ b ∈ i.dyn pe pn,b ∉ l:=fun b hb hm=>(hl b hm).2.1 hb
 have kk:i.kb ∉ l:=f1 _ (by simp [Dd.fixed])
 have kh:i.hx ∉ l:=f1 _ (by simp [Dd.fixed])
 have kf:i.fb ∉ l:=f1 _ (by simp [Dd.fixed])
 have kd:i.gd ∉ l:=f2 _ (gd_dyn _ _ _)
 exact
  { ext:=k.toExt h.ext hw
    k:=(k.cell (cell_lt h.k) kk 0).trans h.k
    h:=(k.cell (cell_lt h.h) kh 0).trans h.h
    f:=(k.cell (cell_lt h.f) kf 0).trans h.f
    d2:=(k.cell (cell_lt h.d2) kd 2).trans h.d2
    d3:=(k.cell (cell_lt h.d3) kd 3).trans h.d3
    d0:=(k.cell (cell_lt h.d2) kd 0).trans h.d0
    d1:=(k.cell (cell_lt h.d2) kd 1).trans h.d1
    d4:=(k.cell (cell_lt h.d2) kd 4).trans h.d4
    z:=fun o=>(k.frozen (cell_lt h.d2) kd o).trans (h.z o)
    z2:=(k.frozen (cell_lt h.d2) kd 2).trans h.z2
    z3:=(k.frozen (cell_lt h.d2) kd 3).trans h.z3
    map:=h.map.but k (f2 _ (gk_dyn _ _ _))
    er:=h.er.but k fun b o e=>f2 _ (pe_dyn _ (mem_blk e))
    nr:=h.nr.but k fun b o e=>f2 _ (pn_dyn _ (mem_blk e))
    kl:=h.kl
    ks:=fun j q kk hq hk=>(h.ks j q kk hq hk).but k fun b o e hm=>by
     cases e
     exact (hl _ hm).2.2 (List.mem_map.2 ⟨kk,List.mem_of_getElem? hk,rfl⟩)
    lo:=fun b hb=>⟨(h.lo b hb).1,Nat.lt_of_lt_of_le (h.lo b hb).2 k.size⟩
    fx:=h.fx
    kx:=h.kx
    nd:=h.nd }
theorem ext' (h:DgSt wb w i D pe ce pn cn K) (k:Ext w w'):DgSt wb w' i D pe ce pn cn K:=h.far (l:=[]) (But.ofExt k) (by simp) (by simp)
theorem known_ (h:DgSt wb w i D pe ce pn cn K) (k:But [i.gk] w w') (hm:MapIAt Tryz.prog w' i.gk M):DgSt wb w' i { D with known:=M } pe ce pn cn K:=by
 have hg:wb.heap.size<=i.gk:=(h.lo i.gk (by simp [Dd.dyn])).1
 have f1:∀ b ∈ i.fixed,b ∉ [i.gk]:=fun b hb hm=>by
  rw [List.mem_singleton.1 hm] at hb;exact (h.fx _ hb).1 (gk_dyn _ _ _)
 have kd:i.gd ∉ [i.gk]:=fun hm=>h.nd.1 (List.mem_singleton.1 hm).symm
 exact
  { ext:=k.toExt h.ext (fun b hb=>by rw [List.mem_singleton.1 hb];exact hg)
    k:=(k.cell (cell_lt h.k) (f1 _ (by simp [Dd.fixed])) 0).trans h.k
    h:=(k.cell (cell_lt h.h) (f1 _ (by simp [Dd.fixed])) 0).trans h.h
    f:=(k.cell (cell_lt h.f) (f1 _ (by simp [Dd.fixed])) 0).trans h.f
    d2:=(k.cell (cell_lt h.d2) kd 2).trans h.d2
    d3:=(k.cell (cell_lt h.d3) kd 3).trans h.d3
    d0:=(k.cell (cell_lt h.d2) kd 0).trans h.d0
    d1:=(k.cell (cell_lt h.d2) kd 1).trans h.d1
    d4:=(k.cell (cell_lt h.d2) kd 4).trans h.d4
    z:=fun o=>(k.frozen (cell_lt h.d2) kd o).trans (h.z o)
    z2:=(k.frozen (cell_lt h.d2) kd 2).trans h.z2
    z3:=(k.frozen (cell_lt h.d2) kd 3).trans h.z3
    map:=hm
    er:=h.er.but k fun b o e hm=>h.nd.2.1 (by rw [<- List.mem_singleton.1 hm];exact mem_blk e)
    nr:=h.nr.but k fun b o e hm=>h.nd.2.2.1 (by rw [<- List.mem_singleton.1 hm];exact mem_blk e)
    kl:=h.kl
    ks:=fun j q kk hq hk=>(h.ks j q kk hq hk).but k fun b o e hm=>by
     cases e
     have:=h.kx kk (List.mem_of_getElem? hk);rw [List.mem_singleton.1 hm] at this;exact this (gk_dyn _ _ _)
    lo:=fun b hb=>⟨(h.lo b hb).1,Nat.lt_of_lt_of_le (h.lo b hb).2 k.size⟩
    fx:=h.fx
    kx:=h.kx
    nd:=h.nd }
theorem grown (h:DgSt wb w i D pe ce pn cn K) {row:Option Nat} (hG:w.grownBy w' row) {p0:Option Addr} (hrow:∀ r,row=some r->p0=some ⟨r,0,none⟩) (o:Nat) (v:Value) :
    But (i.gd :: blk p0) w (w'.setCell ⟨i.gd,o,none⟩ v):=by
  have k1:But (i.gd :: blk p0) w w':=⟨hG.os,hG.tape,hG.output,hG.size,fun j hj hn=>hG.block j hj fun e=>hn (by rw [hrow j e.symm];simp [blk])⟩
  exact k1.setCell (.inl (by simp)) _
theorem store2 (h:DgSt wb w i D pe ce pn cn K) {row:Option Nat} (hG:w.grownBy w' row) (hrow:∀ r,row=some r->pe=some ⟨r,0,none⟩):w'.cell? ⟨i.gd,2,none⟩=some (.slice pe D.ends.length ce)/\w'.frozen? ⟨i.gd,2,none⟩=false:=by
 have k1:But (blk pe) w w':=⟨hG.os,hG.tape,hG.output,hG.size,fun j hj hn=>hG.block j hj fun e=>hn (by rw [hrow j e.symm];simp [blk])⟩
 exact ⟨(k1.cell (cell_lt h.d2) h.nd.2.2.2.1 2).trans h.d2,(k1.frozen (cell_lt h.d2) h.nd.2.2.2.1 2).trans h.z2⟩
theorem store3 (h:DgSt wb w i D pe ce pn cn K) {row:Option Nat} (hG:w.grownBy w' row) (hrow:∀ r,row=some r->pn=some ⟨r,0,none⟩):w'.cell? ⟨i.gd,3,none⟩=some (.slice pn D.nodes.length cn)/\w'.frozen? ⟨i.gd,3,none⟩=false:=by
 have k1:But (blk pn) w w':=⟨hG.os,hG.tape,hG.output,hG.size,fun j hj hn=>hG.block j hj fun e=>hn (by rw [hrow j e.symm];simp [blk])⟩
 exact ⟨(k1.cell (cell_lt h.d2) h.nd.2.2.2.2.1 3).trans h.d3,(k1.frozen (cell_lt h.d2) h.nd.2.2.2.2.1 3).trans h.z3⟩
theorem end_ (h:DgSt wb w i D pe ce pn cn K) {row:Option Nat} {v:Int × Int} (hR:RowN w' 2 43 (some ⟨g,0,none⟩) cap (D.ends.map endC ++ [endC v])) (hG:w.grownBy w' row) (hrow:∀ r,row=some r->pe=some ⟨r,0,none⟩) (hg:pe=some ⟨g,0,none⟩ \/ g=w.heap.size) (hlt:g < w'.heap.size) :
    DgSt wb (w'.setCell ⟨i.gd,2,none⟩ (.slice (some ⟨g,0,none⟩) (D.ends.length+1) cap)) i { D with ends:=D.ends ++ [v] } (some ⟨g,0,none⟩) cap pn cn K/\But (i.gd :: blk pe) w (w'.setCell ⟨i.gd,2,none⟩ (.slice (some ⟨g,0,none⟩) (D.ends.length+1) cap)):=by
  have kb:=h.grown hG hrow 2 (.slice (some ⟨g,0,none⟩) (D.ends.length+1) cap);refine ⟨?_,kb⟩;have k1:But (blk pe) w w':=⟨hG.os,hG.tape,hG.output,hG.size,fun j hj hn=>hG.block j hj fun e=>hn (by rw [hrow j e.symm];simp [blk])⟩
  have hd2:w'.cell? ⟨i.gd,2,none⟩=some (.slice pe D.ends.length ce):=by
   have k1:But (blk pe) w w':=⟨hG.os,hG.tape,hG.output,hG.size,fun j hj hn=>hG.block j hj fun e=>hn (by rw [hrow j e.symm];simp [blk])⟩
   exact (k1.cell (cell_lt h.d2) h.nd.2.2.2.1 2).trans h.d2
  have hz2:w'.frozen? ⟨i.gd,2,none⟩=false:=by
   have k1:But (blk pe) w w':=⟨hG.os,hG.tape,hG.output,hG.size,fun j hj hn=>hG.block j hj fun e=>hn (by rw [hrow j e.symm];simp [blk])⟩
   exact (k1.frozen (cell_lt h.d2) h.nd.2.2.2.1 2).trans h.z2
  have gnew:∀ b,b < w.heap.size->b ∉ blk pe->b ≠ g:=fun b hb hn e=>by
   subst e
   rcases hg with hg | hg
   . exact hn (by rw [hg];simp [blk])
   omega
  have hgd:=h.lo i.gd (by simp [Dd.dyn]);have hgk:=h.lo i.gk (by simp [Dd.dyn]);have notl:∀ b,b ≠ i.gd->b ∉ blk pe->b ∉ i.gd :: blk pe:=fun b h1 h2 hm=>by
   rcases List.mem_cons.1 hm with e | e
   . exact h1 e
   exact h2 e
  have fxl:∀ b ∈ i.fixed,b ∉ i.gd :: blk pe:=fun b hb=>notl b (fun e=>(h.fx b hb).1 (by rw [e];exact gd_dyn _ _ _)) (fun e=>(h.fx b hb).1 (pe_dyn _ e))
  have hw:wb.heap.size<=w.heap.size:=h.ext.le;have hww:=kb.size;have gkg:i.gk ≠ g:=gnew _ hgk.2 h.nd.2.1;have gdg:i.gd ≠ g:=gnew _ hgd.2 h.nd.2.2.2.1;have new:∀ b ∈ i.dyn (some ⟨g,0,none⟩) pn,b=g \/ b ∈ i.dyn pe pn:=fun b hb=>by
   simp only [Dd.dyn,blk,List.mem_cons,List.mem_append,List.not_mem_nil,or_false] at hb ⊢
   rcases hb with hb | hb | hb | hb
   . exact .inr (.inl hb)
   . exact .inr (.inr (.inl hb))
   . exact .inl hb
   exact .inr (.inr (.inr (.inr hb)))
  have klt:∀ k ∈ K,k.1 < w.heap.size:=fun k hk=>(h.lo k.1 (by simp only [List.mem_append,List.mem_map];exact .inr ⟨k,hk,rfl⟩)).2
  have sw:(w'.setCell ⟨i.gd,2,none⟩ (.slice (some ⟨g,0,none⟩) (D.ends.length+1) cap)).heap.size=w'.heap.size:=by simp [World.setCell]
  exact
   { ext:=kb.toExt h.ext fun b hb=>by
       rcases List.mem_cons.1 hb with rfl | hb
       . exact hgd.1
       exact (h.lo b (by simp only [List.mem_append];exact .inl (.inr (pe_dyn _ hb)))).1
     k:=(kb.cell (cell_lt h.k) (fxl _ (by simp [Dd.fixed])) 0).trans h.k
     h:=(kb.cell (cell_lt h.h) (fxl _ (by simp [Dd.fixed])) 0).trans h.h
     f:=(kb.cell (cell_lt h.f) (fxl _ (by simp [Dd.fixed])) 0).trans h.f
     d2:=by
      rw [List.length_append];simp [go_sem,hd2]
     d3:=by
      have:w'.cell? ⟨i.gd,3,none⟩=some (.slice pn D.nodes.length cn):=by
       have k1:But (blk pe) w w':=⟨hG.os,hG.tape,hG.output,hG.size,fun j hj hn=>hG.block j hj fun e=>hn (by rw [hrow j e.symm];simp [blk])⟩
       exact (k1.cell (cell_lt h.d2) h.nd.2.2.2.1 3).trans h.d3
      simp [go_sem,this]
     d0:=by
      have:=(k1.cell (cell_lt h.d2) h.nd.2.2.2.1 0).trans h.d0;simp [go_sem,this]
     d1:=by
      have:=(k1.cell (cell_lt h.d2) h.nd.2.2.2.1 1).trans h.d1;simp [go_sem,this]
     d4:=by
      have:=(k1.cell (cell_lt h.d2) h.nd.2.2.2.1 4).trans h.d4;simp [go_sem,this]
     z:=fun o=>by
      have:=(k1.frozen (cell_lt h.d2) h.nd.2.2.2.1 o).trans (h.z o);simp [go_sem,this]
     z2:=by simp [go_sem,hz2]
     z3:=by
      have:w'.frozen? ⟨i.gd,3,none⟩=false:=by
       have k1:But (blk pe) w w':=⟨hG.os,hG.tape,hG.output,hG.size,fun j hj hn=>hG.block j hj fun e=>hn (by rw [hrow j e.symm];simp [blk])⟩
       exact (k1.frozen (cell_lt h.d2) h.nd.2.2.2.1 3).trans h.z3
      simp [go_sem,this]
     map:=h.map.but kb (notl _ h.nd.1 h.nd.2.1)
     er:=by
      rw [show (D.ends ++ [v]).map endC=D.ends.map endC ++ [endC v] by simp];exact hR.but (l:=[i.gd]) ((But.refl _ _).setCell (.inl (by simp)) _) fun b o e hm=>by
       cases e
       exact gdg (List.mem_singleton.1 hm).symm
     nr:=h.nr.but kb fun b o e=>notl b (fun e'=>h.nd.2.2.2.2.1 (by rw [<- e'];exact mem_blk e)) (fun e'=>h.nd.2.2.2.2.2 b e' (mem_blk e))
     kl:=h.kl
     ks:=fun j q kk hq hk=>(h.ks j q kk hq hk).but kb fun b o e=>by
      cases e
      have:=h.kx kk (List.mem_of_getElem? hk);exact notl _ (fun e=>this (by rw [e];exact gd_dyn _ _ _)) (fun e=>this (pe_dyn _ e))
     lo:=fun b hb=>by
      rw [sw];simp only [List.mem_append] at hb
      rcases hb with (hb | hb) | hb
      . have:=h.lo b (by simp only [List.mem_append];exact .inl (.inl hb));exact ⟨this.1,Nat.lt_of_lt_of_le this.2 hG.size⟩
      . rcases new b hb with rfl | hb
        . rcases hg with hg | hg
          . have:=h.lo b (by simp only [List.mem_append];exact .inl (.inr (pe_dyn _ (mem_blk hg))));exact ⟨this.1,hlt⟩
          exact ⟨by omega,hlt⟩
        have:=h.lo b (by simp only [List.mem_append];exact .inl (.inr hb));exact ⟨this.1,Nat.lt_of_lt_of_le this.2 hG.size⟩
      have:=h.lo b (by simp only [List.mem_append];exact .inr hb);exact ⟨this.1,Nat.lt_of_lt_of_le this.2 hG.size⟩
     fx:=fun b hb=>⟨fun hm=>by
      rcases new b hm with e | hm
      . exact gnew b (h.lo b (by simp only [List.mem_append];exact .inl (.inl hb))).2 (fun e=>(h.fx b hb).1 (pe_dyn _ e)) e
      . exact (h.fx b hb).1 hm,(h.fx b hb).2⟩
     kx:=fun k hk hm=>by
      rcases new _ hm with e | hm
      . exact gnew _ (klt k hk) (fun e=>h.kx k hk (pe_dyn _ e)) e
      exact h.kx k hk hm
     nd:=⟨h.nd.1,by simpa [blk] using gkg,h.nd.2.2.1,by simpa [blk] using gdg,h.nd.2.2.2.2.1,fun b hb hm=>by
      have e:b=g:=by simpa [blk] using hb
      subst e
      rcases hg with hg | hg
      . exact h.nd.2.2.2.2.2 b (mem_blk hg) hm
      . have:=(h.lo b (by simp only [List.mem_append];exact .inl (.inr (pn_dyn _ hm)))).2;omega⟩ }
theorem node_ (h:DgSt wb w i D pe ce pn cn K) {g0 c0:Nat} {row:Option Nat} {q:Int × List Int} (hR:RowN w' 2 41 (some ⟨g,0,none⟩) cap (List.zipWith (fun q k=>nodeC q (some ⟨k.1,0,none⟩,k.2)) D.nodes K ++ [nodeC q (some ⟨g0,0,none⟩,c0)])) (hG:w.grownBy w' row) (hrow:∀ r,row=some r->pn=some ⟨r,0,none⟩) (hg:pn=some ⟨g,0,none⟩ \/ g=w.heap.size) (hlt:g < w'.heap.size)
    (hs:SliceAt w (some ⟨g0,0,none⟩) c0 q.2) (h0:wb.heap.size<=g0/\g0 < w.heap.size) (h1:g0 ∉ i.fixed) (h2:g0 ∉ i.dyn pe pn) :
    DgSt wb (w'.setCell ⟨i.gd,3,none⟩ (.slice (some ⟨g,0,none⟩) (D.nodes.length+1) cap)) i { D with nodes:=D.nodes ++ [q] } pe ce (some ⟨g,0,none⟩) cap (K ++ [(g0,c0)])/\But (i.gd :: blk pn) w (w'.setCell ⟨i.gd,3,none⟩ (.slice (some ⟨g,0,none⟩) (D.nodes.length+1) cap)):=by
  have kb:=h.grown hG hrow 3 (.slice (some ⟨g,0,none⟩) (D.nodes.length+1) cap);refine ⟨?_,kb⟩;have k1:But (blk pn) w w':=⟨hG.os,hG.tape,hG.output,hG.size,fun j hj hn=>hG.block j hj fun e=>hn (by rw [hrow j e.symm];simp [blk])⟩
  have hd3:w'.cell? ⟨i.gd,3,none⟩=some (.slice pn D.nodes.length cn):=(k1.cell (cell_lt h.d2) h.nd.2.2.2.2.1 3).trans h.d3;have hd2:w'.cell? ⟨i.gd,2,none⟩=some (.slice pe D.ends.length ce):=(k1.cell (cell_lt h.d2) h.nd.2.2.2.2.1 2).trans h.d2;have hz2:w'.frozen? ⟨i.gd,2,none⟩=false:=(k1.frozen (cell_lt h.d2) h.nd.2.2.2.2.1 2).trans h.z2;have hz3:w'.frozen? ⟨i.gd,3,none⟩=false:=(k1.frozen (cell_lt h.d2) h.nd.2.2.2.2.1 3).trans h.z3;have gnew:∀ b,b < w.heap.size->b ∉ blk pn->b ≠ g:=fun b hb hn e=>by
   subst e
   rcases hg with hg | hg
   . exact hn (by rw [hg];simp [blk])
   omega
  have hgd:=h.lo i.gd (by simp [Dd.dyn]);have hgk:=h.lo i.gk (by simp [Dd.dyn]);have notl:∀ b,b ≠ i.gd->b ∉ blk pn->b ∉ i.gd :: blk pn:=fun b h1 h2 hm=>by
   rcases List.mem_cons.1 hm with e | e
   . exact h1 e
   exact h2 e
  have fxl:∀ b ∈ i.fixed,b ∉ i.gd :: blk pn:=fun b hb=>notl b (fun e=>(h.fx b hb).1 (by rw [e];exact gd_dyn _ _ _)) (fun e=>(h.fx b hb).1 (pn_dyn _ e))
  have hw:wb.heap.size<=w.heap.size:=h.ext.le;have gkg:i.gk ≠ g:=gnew _ hgk.2 h.nd.2.2.1;have gdg:i.gd ≠ g:=gnew _ hgd.2 h.nd.2.2.2.2.1;have new:∀ b ∈ i.dyn pe (some ⟨g,0,none⟩),b=g \/ b ∈ i.dyn pe pn:=fun b hb=>by
   simp only [Dd.dyn,blk,List.mem_cons,List.mem_append,List.not_mem_nil,or_false] at hb ⊢
   rcases hb with hb | hb | hb | hb
   . exact .inr (.inl hb)
   . exact .inr (.inr (.inl hb))
   . exact .inr (.inr (.inr (.inl hb)))
   exact .inl hb
  have klt:∀ k ∈ K,k.1 < w.heap.size:=fun k hk=>(h.lo k.1 (by simp only [List.mem_append,List.mem_map];exact .inr ⟨k,hk,rfl⟩)).2
  have sw:(w'.setCell ⟨i.gd,3,none⟩ (.slice (some ⟨g,0,none⟩) (D.nodes.length+1) cap)).heap.size=w'.heap.size:=by simp [World.setCell]
  have g0l:g0 ∉ i.gd :: blk pn:=notl _ (fun e=>h2 (by rw [e];exact gd_dyn _ _ _)) (fun e=>h2 (pn_dyn _ e));have mk:∀ b ∈ (K ++ [(g0,c0)]).map Prod.fst,b=g0 \/ b ∈ K.map Prod.fst:=fun b hb=>by
   rw [List.map_append] at hb
   rcases List.mem_append.1 hb with hb | hb
   . exact .inr hb
   exact .inl (by simpa using hb)
  exact
   { ext:=kb.toExt h.ext fun b hb=>by
       rcases List.mem_cons.1 hb with rfl | hb
       . exact hgd.1
       exact (h.lo b (by simp only [List.mem_append];exact .inl (.inr (pn_dyn _ hb)))).1
     k:=(kb.cell (cell_lt h.k) (fxl _ (by simp [Dd.fixed])) 0).trans h.k
     h:=(kb.cell (cell_lt h.h) (fxl _ (by simp [Dd.fixed])) 0).trans h.h
     f:=(kb.cell (cell_lt h.f) (fxl _ (by simp [Dd.fixed])) 0).trans h.f
     d2:=by simp [go_sem,hd2]
     d3:=by
      rw [List.length_append];simp [go_sem,hd3]
     d0:=by
      have:=(k1.cell (cell_lt h.d2) h.nd.2.2.2.2.1 0).trans h.d0;simp [go_sem,this]
     d1:=by
      have:=(k1.cell (cell_lt h.d2) h.nd.2.2.2.2.1 1).trans h.d1;simp [go_sem,this]
     d4:=by
      have:=(k1.cell (cell_lt h.d2) h.nd.2.2.2.2.1 4).trans h.d4;simp [go_sem,this]
     z:=fun o=>by
      have:=(k1.frozen (cell_lt h.d2) h.nd.2.2.2.2.1 o).trans (h.z o);simp [go_sem,this]
     z2:=by simp [go_sem,hz2]
     z3:=by simp [go_sem,hz3]
     map:=h.map.but kb (notl _ h.nd.1 h.nd.2.2.1)
     er:=h.er.but kb fun b o e=>notl b (fun e'=>h.nd.2.2.2.1 (by rw [<- e'];exact mem_blk e)) (fun e'=>h.nd.2.2.2.2.2 b (mem_blk e) e')
     nr:=by
      rw [show List.zipWith (fun (q:Int × List Int) (k:Nat × Nat)=>nodeC q (some ⟨k.1,0,none⟩,k.2)) (D.nodes ++ [q]) (K ++ [(g0,c0)])=List.zipWith (fun q k=>nodeC q (some ⟨k.1,0,none⟩,k.2)) D.nodes K ++ [nodeC q (some ⟨g0,0,none⟩,c0)] by rw [List.zipWith_append h.kl.symm];rfl];exact hR.but (l:=[i.gd]) ((But.refl _ _).setCell (.inl (by simp)) _) fun b o e hm=>by
       cases e
       exact gdg (List.mem_singleton.1 hm).symm
     kl:=by simp [h.kl]
     ks:=fun j q' kk hq hk=>by
      by_cases hj:j < D.nodes.length
      . rw [List.getElem?_append_left hj] at hq;rw [List.getElem?_append_left (by rw [h.kl];exact hj)] at hk;refine (h.ks j q' kk hq hk).but kb fun b o e=>?_
        cases e
        have:=h.kx kk (List.mem_of_getElem? hk);exact notl _ (fun e=>this (by rw [e];exact gd_dyn _ _ _)) (fun e=>this (pn_dyn _ e))
      have ej:j=D.nodes.length:=by
       have:=(List.getElem?_eq_some_iff.1 hq).1;simp at this;omega
      subst ej;rw [List.getElem?_append_right (Nat.le_refl _),Nat.sub_self] at hq;rw [List.getElem?_append_right (by rw [h.kl];exact Nat.le_refl _),h.kl,Nat.sub_self] at hk
      cases hq
      cases hk
      exact hs.but kb fun b o e=>by
       cases e
       exact g0l
     lo:=fun b hb=>by
      rw [sw];simp only [List.mem_append] at hb
      rcases hb with (hb | hb) | hb
      . have:=h.lo b (by simp only [List.mem_append];exact .inl (.inl hb));exact ⟨this.1,Nat.lt_of_lt_of_le this.2 hG.size⟩
      . rcases new b hb with rfl | hb
        . rcases hg with hg | hg
          . have:=h.lo b (by simp only [List.mem_append];exact .inl (.inr (pn_dyn _ (mem_blk hg))));exact ⟨this.1,hlt⟩
          exact ⟨by omega,hlt⟩
        have:=h.lo b (by simp only [List.mem_append];exact .inl (.inr hb));exact ⟨this.1,Nat.lt_of_lt_of_le this.2 hG.size⟩
      rcases mk b hb with rfl | hb
      . exact ⟨h0.1,Nat.lt_of_lt_of_le h0.2 hG.size⟩
      have:=h.lo b (by simp only [List.mem_append];exact .inr hb);exact ⟨this.1,Nat.lt_of_lt_of_le this.2 hG.size⟩
     fx:=fun b hb=>⟨fun hm=>by
      rcases new b hm with e | hm
      . exact gnew b (h.lo b (by simp only [List.mem_append];exact .inl (.inl hb))).2 (fun e=>(h.fx b hb).1 (pn_dyn _ e)) e
      . exact (h.fx b hb).1 hm,fun hm=>by
      rcases mk b hm with rfl | hm
      . exact h1 hb
      . exact (h.fx b hb).2 hm⟩
     kx:=fun k hk hm=>by
      rcases List.mem_append.1 hk with hk | hk
      . rcases new _ hm with e | hm
        . exact gnew _ (klt k hk) (fun e=>h.kx k hk (pn_dyn _ e)) e
        exact h.kx k hk hm
      rw [List.mem_singleton.1 hk] at hm
      rcases new _ hm with e | hm
      . exact gnew _ h0.2 (fun e=>h2 (pn_dyn _ e)) e
      exact h2 hm
     nd:=⟨h.nd.1,h.nd.2.1,by simpa [blk] using gkg,h.nd.2.2.2.1,by simpa [blk] using gdg,fun b hb hm=>by
      have e:b=g:=by simpa [blk] using hm
      subst e
      rcases hg with hg | hg
      . exact h.nd.2.2.2.2.2 b hb (mem_blk hg)
      . have:=(h.lo b (by simp only [List.mem_append];exact .inl (.inr (pe_dyn _ hb)))).2;omega⟩ }
end DgSt
open Go.RowKit Go.Maps
theorem eq_val (a b a' b':Int) (u:World):Sem.run Tryz.prog (Op.equalIn 10000 43 (.agg #[.int .u8 a,.int .i64 b]) (.agg #[.int .u8 a',.int .i64 b'])) u = .ok (decide ((a,b)=(a',b'))) u:=by
 rw [show (10000:Nat)=9999+1 from rfl]
 rw [run_equalIn_agg u 9999 43 _ _ (by kernel_rfl) (by kernel_rfl)]
 go_simp
 by_cases h:a=a' <;> by_cases k:b=b' <;> simp [h,k]
theorem map_endC_get {E:List (Int × Int)} {v:Int × Int} (h:E[j]? = some v):(E.map endC)[j]? = some [.int .u8 v.1,.int .i64 v.2]:=by
 rw [List.getElem?_map,h]
 rfl
theorem RdN.end_cells {E:List (Int × Int)} (h:RdN w 2 p c (E.map endC)) (h0:0 < E.length):∃ b o,p=some ⟨b,o,none⟩/\b < w.heap.size /\ ∀ (j:Nat) (v:Int × Int),E[j]? = some v->w.cell? ⟨b,o+j * 2,none⟩=some (.int .u8 v.1)/\w.cell? ⟨b,o+j * 2+1,none⟩=some (.int .i64 v.2):=by
 obtain ⟨b,o,rfl,hb,hc⟩:=h.cells (by simpa using h0)
 refine ⟨b,o,rfl,hb,fun j v hv=>⟨?_, ?_⟩⟩
 . exact hc j _ 0 _ (map_endC_get hv) rfl
 exact hc j _ 1 _ (map_endC_get hv) rfl
theorem get_list {α:Type} {E:List α} (h:j < E.length):∃ v,E[j]? = some v:=⟨E[j],List.getElem?_eq_getElem h⟩
theorem list_eq_of_get {α:Type} {l m:List α} (hl:l.length=m.length) (h:∀ i,i < l.length->l[i]? = m[i]?):l=m:=by
 apply List.ext_getElem? 
 intro i
 by_cases hi:i < l.length
 . exact h i hi
 rw [List.getElem?_eq_none (by omega),List.getElem?_eq_none (by omega)]
set_option maxRecDepth 100000 in
set_option maxHeartbeats 4000000 in
theorem dAlike_any {d:Nat} {E F:List (Int × Int)} (h:RdN w 2 p c (E.map endC)) (k:RdN w 2 q d (F.map endC)) :
    Calls Tryz.prog 86 #[.slice p E.length c,.slice q F.length d] w fun e w'=>e = .returned (.bool (decide (E=F)))/\Ext w w':=by
  have hle:=h.le;have hcap:=h.cap;have hle':=k.le;have hcap':=k.cap;rw [List.length_map] at hle hle'
  by_cases hne:E.length=F.length
  case neg=>
   have e:decide (E=F)=false:=by
    apply decide_eq_false;intro e;exact hne (by rw [e])
   rw [e];clear h k e;generalize E.length=a at *;generalize F.length=b at *;have e1:((a:Int) == (b:Int))=false:=by simpa using (by omega:¬ (a:Int)=b)
   go_enter Tryz.func86,Tryz.ntmps86;go_wp2;go_returns;exact ⟨rfl,exx⟩
  case pos=>
   have H:=hZ h;have K:=hZ k;clear h k;rw [<- hne];have HM:=hZ hne;clear hne hle';generalize hL:E.length=n at hle ⊢;have HL:=hZ hL;clear hL;have mixed:Tryz.prog.follows .mixedOrders=true:=by kernel_rfl
   go_enter Tryz.func86,Tryz.ntmps86;go_wp2
   go_loopg [5] n (fun g i wr=>∃ j:Nat,j<=n/\n-j<=g/\i = .int .i64 j/\Aside (Ext w wr)/\Aside (∀ i,i < j->E[i]? = F[i]?))
   case atStart=>exact ⟨0,Nat.zero_le _,by omega,rfl,Ext.refl w,fun m hm=>absurd hm (Nat.not_lt_zero _)⟩
   case round=>
    obtain ⟨j,hj,hg,rfl,HE,HA⟩:=hrel
    by_cases hlt:j < n
    . obtain ⟨f,hf⟩:=get_list (E:=E) (j:=j) (by rw [HL.out];exact hlt);obtain ⟨f',hf'⟩:=get_list (E:=F) (j:=j) (by rw [<- HM.out,HL.out];exact hlt);obtain ⟨b,o,rfl,hb,hc⟩:=(H.out.ext HE.out).end_cells (by rw [HL.out];omega);obtain ⟨b',o',rfl,hb',hc'⟩:=(K.out.ext HE.out).end_cells (by rw [<- HM.out,HL.out];omega);obtain ⟨g1,g2⟩:=hc j f hf;obtain ⟨k1,k2⟩:=hc' j f' hf';have EQ:=fun u=>eq_val f.1 f.2 f'.1 f'.2 u
      have HF:=hZ hf;have HF':=hZ hf';clear hf hc hf' hc';obtain ⟨f1,f2⟩:=f;obtain ⟨f1',f2'⟩:=f'
      by_cases he:(f1,f2)=(f1',f2')
      . simp only [he,decide_true] at EQ
        cases he
        go_wp2_with fail
        go_region_o
        go_wp2
        go_roundg (n-(j+1))
        case measure=>omega
        case rel=>
         refine ⟨j+1,by omega,by omega,by go_num,(show Aside _ from HE.out.drew),(show Aside _ from fun i hi=>?_)⟩
         by_cases e:i=j
         . subst e;rw [HF.out,HF'.out]
         exact HA.out i (by omega)
      simp only [he,decide_false] at EQ
      go_wp2_with fail
      go_region_o
      go_wp2;go_returns;refine ⟨?_,HE.out.drew⟩;have e:decide (E=F)=false:=by
       apply decide_eq_false;rintro rfl;have:=HF.out;rw [HF'.out] at this
       cases this
       exact he rfl
      rw [e];rfl
    have:j=n:=by omega
    subst this;go_wp2;go_returns;refine ⟨?_,HE.out⟩;have e:decide (E=F)=true:=decide_eq_true (list_eq_of_get HM.out (by rw [HL.out];exact HA.out));rw [e];rfl
end Go.Proofs.YtdokmmhjmclmnaaGreat
