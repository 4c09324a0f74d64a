/-
  Part 14 of a proof: PL33 LD1 LD2 LD3 PN1 PN7.
-/
import Derived.Test.YtdokmmhjmclmnaaGreatMB04
import Derived.Test.YtdokmmhjmclmnaaGreatMB11
import Derived.Test.YtdokmmhjmclmnaaGreatMB13
set_option linter.unusedSimpArgs false
set_option linter.unusedVariables false
set_option linter.unusedSectionVars false
set_option linter.unnecessarySimpa false
namespace Go.Proofs.YtdokmmhjmclmnaaGreat
namespace Hp
structure Dg where
 known:List (Nat × Int)
 ends:List (Int × Int)
 nodes:List (Int × List Int)
def refs (go:Nat → Dg → Option (Int × Dg)):List Nat → Dg → Option (List Int × Dg)
 | [],D=>some ([],D)
 | k :: r,D=>do
  let (x,D) ← go k D
  let (xs,D) ← refs go r D
  some (x :: xs,D)
namespace Hs
def from' (S:Hs):Nat → Nat → Dg → Option (Int × Dg)
 | 0,_,_=>none
 | n+1,a,D=>
  match getI a D.known with
  | some x=>some (x,D)
  | none=>
   let t:=ow S.words a
   if isEnd t then
    let x:Int:=-((D.ends.length:Int)+1)
    some (x,{ D with ends:=D.ends ++ [(t-20,ow S.words (a+4))],known:=putI a x D.known })
   else do
    let (xs,D) ← refs (S.from' n) ((fz (ow S.words) S.sizes a).map Int.toNat) D
    some ((D.nodes.length:Int),{ D with nodes:=D.nodes ++ [(t-1,xs)],known:=putI a D.nodes.length D.known })
def diagram (S:Hs) (a:Nat):Option (Int × Dg):=S.from' (S.order.length+2) a ⟨[],[],[]⟩
end Hs
structure Also (T:List Nat) (m:Nat → Nat) (D D':Dg):Prop where
 ends:D'.ends=D.ends
 nodes:D'.nodes=D.nodes
 up:KeysUp D.known
 up':KeysUp D'.known
 known:∀ a ∈ T,getI (m a) D'.known=getI a D.known
theorem Also.put {T:List Nat} {m:Nat → Nat} {D D':Dg} (h:Also T m D D') (hi:∀ a ∈ T,∀ b ∈ T,m a=m b → a=b) {a:Nat} (ha:a ∈ T) (x:Int) {E:List (Int × Int)} {N:List (Int × List Int)} :
    Also T m ⟨putI a x D.known,E,N⟩ ⟨putI (m a) x D'.known,E,N⟩:=by
  refine ⟨rfl,rfl,keysUp_put h.up,keysUp_put h.up',fun b hb=>?_⟩;show getI (m b) (putI (m a) x D'.known)=getI b (putI a x D.known);rw [getI_put h.up',getI_put h.up,h.known b hb]
  by_cases e:b=a
  · subst e;simp
  · rw [if_neg e,if_neg (fun e'=>e (hi b hb a ha e'))]
structure DgOk (S:Hs) (D:Dg):Prop where
 up:KeysUp D.known
 keys:∀ p ∈ D.known,p.1 ∈ S.taken
 many:D.ends.length+D.nodes.length=D.known.length
 refs:∀ p ∈ D.known,-(D.ends.length:Int) ≤ p.2 ∧ p.2 < D.nodes.length
 kids:∀ q ∈ D.nodes,∀ x ∈ q.2,-(D.ends.length:Int) ≤ x ∧ x < D.nodes.length
def DgLe (D D1:Dg):Prop:=D.ends <+: D1.ends ∧ D.nodes <+: D1.nodes
theorem DgLe.refl (D:Dg):DgLe D D:=⟨List.prefix_refl _,List.prefix_refl _⟩
theorem DgLe.trans {D D1 D2:Dg} (h:DgLe D D1) (k:DgLe D1 D2):DgLe D D2:=⟨h.1.trans k.1,h.2.trans k.2⟩
theorem DgLe.le {D D1:Dg} (h:DgLe D D1):D.ends.length ≤ D1.ends.length ∧ D.nodes.length ≤ D1.nodes.length:=⟨h.1.length_le,h.2.length_le⟩
theorem putI_len {k:Nat} {x:Int}:∀ {M:List (Nat × Int)},KeysUp M → getI k M=none → (putI k x M).length=M.length+1
 | [],_,_=>rfl
 | (j,y) :: r,hu,h=>by
  obtain ⟨h1,h2⟩:=List.pairwise_cons.1 hu;unfold getI at h
  by_cases e:j=k
  · rw [if_pos e] at h
    cases h
  · rw [if_neg e] at h;unfold putI
    split
    · simp
    · split
      · rename_i e';exact absurd e'.symm e
      · have:=putI_len h2 h (x:=x);simp [this]
theorem mem_putI {k:Nat} {x:Int}:∀ {M:List (Nat × Int)} {p:Nat × Int},p ∈ putI k x M → p=(k,x) ∨ p ∈ M
 | [],p,h=>by
  left
  simpa [putI] using h
 | (j,y) :: r,p,h=>by
  unfold putI at h
  split at h
  · rcases List.mem_cons.1 h with h | h
    · exact .inl h
    · exact .inr h
  · split at h
    · rcases List.mem_cons.1 h with h | h
      · exact .inl h
      · exact .inr (by simp [h])
    · rcases List.mem_cons.1 h with h | h
      · exact .inr (by simp [h])
      · rcases mem_putI h with h | h
        · exact .inl h
        · exact .inr (by simp [h])
theorem getI_in {k:Nat} {x:Int}:∀ {M:List (Nat × Int)},getI k M=some x → (k,x) ∈ M
 | [],h=>by cases h
 | (j,y) :: r,h=>by
  unfold getI at h
  split at h
  · rename_i e;subst e
    cases h
    simp
  · simp [getI_in h]
theorem DgOk.end_ {S:Hs} {D:Dg} (h:DgOk S D) {a:Nat} (ha:a ∈ S.taken) (hk:getI a D.known=none) (v:Int × Int) :
    DgOk S ⟨putI a (-((D.ends.length:Int)+1)) D.known,D.ends ++ [v],D.nodes⟩:=by
  refine ⟨keysUp_put h.up,fun p hp=>?_, ?_,fun p hp=>?_,fun q hq x hx=>?_⟩
  · rcases mem_putI hp with rfl | hp
    · exact ha
    · exact h.keys p hp
  · rw [putI_len h.up hk,← h.many];simp;omega
  · simp only [List.length_append,List.length_cons,List.length_nil]
    rcases mem_putI hp with rfl | hp
    · simp only;omega
    · have:=h.refs p hp;omega
  · have:=h.kids q hq x hx;simp only [List.length_append,List.length_cons,List.length_nil];omega
theorem DgOk.node_ {S:Hs} {D:Dg} (h:DgOk S D) {a:Nat} (ha:a ∈ S.taken) (hk:getI a D.known=none) (t:Int) {xs:List Int} (hx:∀ x ∈ xs,-(D.ends.length:Int) ≤ x ∧ x < D.nodes.length) :
    DgOk S ⟨putI a D.nodes.length D.known,D.ends,D.nodes ++ [(t,xs)]⟩:=by
  refine ⟨keysUp_put h.up,fun p hp=>?_, ?_,fun p hp=>?_,fun q hq x hx'=>?_⟩
  · rcases mem_putI hp with rfl | hp
    · exact ha
    · exact h.keys p hp
  · rw [putI_len h.up hk,← h.many];simp;omega
  · simp only [List.length_append,List.length_cons,List.length_nil]
    rcases mem_putI hp with rfl | hp
    · simp only;omega
    · have:=h.refs p hp;omega
  · simp only [List.length_append,List.length_cons,List.length_nil]
    rcases List.mem_append.1 hq with hq | hq
    · have:=h.kids q hq x hx';omega
    · simp only [List.mem_singleton] at hq;subst hq;have:=hx x hx';omega
theorem known_few {S:Hs} {D:Dg} {n:Nat} (h:DgOk S D) (hb:∀ a ∈ S.taken,a < n):D.known.length ≤ n:=by
 have h1:(D.known.map Prod.fst).Pairwise (· < ·):=by
  rw [List.pairwise_map];exact h.up
 have:=sorted_len h1 (n:=n) fun x hx=>by
  obtain ⟨p,hp,rfl⟩:=List.mem_map.1 hx;exact hb _ (h.keys p hp)
 simpa using this
def rk (S:Hs) (a:Nat):Int:=rank S.order (ow S.words a)
structure FromTo (S:Hs) (a:Nat) (D:Dg) (x:Int) (D1:Dg):Prop where
 ok:DgOk S D1
 le:DgLe D D1
 lo : -(D1.ends.length:Int) ≤ x
 hi:x < D1.nodes.length
 old:∀ b,(getI b D1.known).isSome=true → (getI b D.known).isSome=true ∨ rk S a ≤ rk S b
theorem refs_total {S:Hs} {f:Nat → Dg → Option (Int × Dg)} {r:Int}:∀ (l:List Nat) (D:Dg),(∀ k ∈ l,k ∈ S.taken ∧ r < rk S k) → (∀ k ∈ l,∀ D,DgOk S D → ∃ x D1,f k D=some (x,D1) ∧ FromTo S k D x D1) → DgOk S D →
    ∃ xs D1,refs f l D=some (xs,D1) ∧ xs.length=l.length ∧ DgOk S D1 ∧ DgLe D D1 ∧ (∀ x ∈ xs,-(D1.ends.length:Int) ≤ x ∧ x < D1.nodes.length) ∧ ∀ b,(getI b D1.known).isSome=true → (getI b D.known).isSome=true ∨ r < rk S b
  | [],D,_,_,h=>⟨[],D,rfl,rfl,h,DgLe.refl D,by simp,fun b hb=>.inl hb⟩
  | k :: l,D,hl,hf,h=>by
   obtain ⟨x,D1,e1,h1⟩:=hf k (by simp) D h;obtain ⟨xs,D2,e2,q0,q1,q2,q3,q4⟩:=refs_total l D1 (fun k hk=>hl k (by simp [hk])) (fun k hk=>hf k (by simp [hk])) h1.ok;have hle:=q2.le;refine ⟨x :: xs,D2,by simp [refs,e1,e2],by simp [q0],q1,h1.le.trans q2,fun y hy=>?_,fun b hb=>?_⟩
   · rcases List.mem_cons.1 hy with rfl | hy
     · have:=h1.lo;have:=h1.hi;omega
     · exact q3 y hy
   · rcases q4 b hb with hb | hb
     · rcases h1.old b hb with hb | hb
       · exact .inl hb
       · have:=(hl k (by simp)).2;exact .inr (by omega)
     · exact .inr hb
theorem index_lo (l:List Int) (x:Int) : -1 ≤ index l x:=by
 unfold index
 split <;> omega
theorem rank_lo (o:List Int) (t:Int) : -1 ≤ rank o t:=by
 unfold rank
 split
 · omega
 · exact index_lo _ _
theorem rank_hi {S:Hs} {B:Nat} {L:List Tl} {ch:Nat → List Nat} (_:Wf S B L ch) {a:Nat} (_:a ∈ S.taken):rk S a ≤ S.order.length:=by
 unfold rk rank
 split
 · omega
 · unfold index
   split
   · rename_i i hi;have:=(List.findIdx?_eq_some_iff_getElem.1 hi).1;omega
   · omega
theorem isSome_putI {a b:Nat} {x:Int} {M:List (Nat × Int)} (hM:KeysUp M) (h:(getI b (putI a x M)).isSome=true):b=a ∨ (getI b M).isSome=true:=by
 rw [getI_put hM] at h
 by_cases e:b=a
 · exact .inl e
 · rw [if_neg e] at h;exact .inr h
theorem Wf.kid_in {S:Hs} {B:Nat} {L:List Tl} {ch:Nat → List Nat} (h:Wf S B L ch) {a:Nat} (ha:a ∈ S.taken) (he:isEnd (ow S.words a)=false):∀ k ∈ (fz (ow S.words) S.sizes a).map Int.toNat,k ∈ S.taken ∧ rk S a < rk S k:=by
 intro k hk
 obtain ⟨x,hx,rfl⟩:=List.mem_map.1 hk
 obtain ⟨b,hb,rfl,hr⟩:=h.cells.kids a ha x (by simpa [kz,he] using hx)
 exact ⟨by simpa using hb,by simpa [rk] using hr⟩
theorem from_total {S:Hs} {B:Nat} {L:List Tl} {ch:Nat → List Nat} (h:Wf S B L ch):∀ (n:Nat) (a:Nat),a ∈ S.taken → (S.order.length:Int)-rk S a < n → ∀ D,DgOk S D → ∃ x D1,S.from' n a D=some (x,D1) ∧ FromTo S a D x D1
 | 0,a,ha,hn,D,hD=>by
  exfalso;have:rk S a ≤ S.order.length:=rank_hi h ha;omega
 | n+1,a,ha,hn,D,hD=>by
  unfold Hs.from'
  cases hk:getI a D.known with
  | some y=>
   have:=hD.refs _ (getI_in hk);exact ⟨y,D,rfl,hD,DgLe.refl D,this.1,this.2,fun b hb=>.inl hb⟩
  | none=>
   simp only
   cases he:isEnd (ow S.words a) with
   | true=>
    simp only [if_true];refine ⟨_,_,rfl,hD.end_ ha hk _,⟨List.prefix_append _ _,List.prefix_refl _⟩,by simp,by simp;omega,fun b hb=>?_⟩
    rcases isSome_putI hD.up hb with rfl | hb
    · exact .inr (Int.le_refl _)
    · exact .inl hb
   | false=>
    simp only [Bool.false_eq_true,if_false];have hkid:=h.kid_in ha he;obtain ⟨xs,D1,e1,q0,q1,q2,q3,q4⟩:=refs_total (S:=S) (f:=S.from' n) (r:=rk S a) _ D hkid (fun k hk D hD=>from_total h n k (hkid k hk).1 (by have:=(hkid k hk).2;omega) D hD) hD;have hn1:getI a D1.known=none:=by
     cases hq:getI a D1.known with
     | none=>rfl
     | some y=>
      rcases q4 a (by rw [hq];rfl) with h1 | h1
      · rw [hk] at h1
        cases h1
      · omega
    simp only [Option.bind_eq_bind,e1,Option.bind_some];refine ⟨_,_,rfl,q1.node_ ha hn1 _ q3,q2.trans ⟨List.prefix_refl _,List.prefix_append _ _⟩,by simp only;omega,by simp only [List.length_append,List.length_cons,List.length_nil];omega,fun b hb=>?_⟩
    rcases isSome_putI q1.up hb with rfl | hb
    · exact .inr (Int.le_refl _)
    · rcases q4 b hb with hb | hb
      · exact .inl hb
      · exact .inr (by omega)
end Hp
open Go.RowKit Go.Maps
structure RdN (w:World) (n:Nat) (p:Option Addr) (c:Nat) (X:List (List Value)):Prop where
 le:X.length ≤ c
 cap:c ≤ 9223372036854775807
 cells:0 < X.length → ∃ b o,p=some ⟨b,o,none⟩ ∧ b < w.heap.size ∧ ∀ j x i v,X[j]? = some x → x[i]? = some v → w.cell? ⟨b,o+(j * n+i),none⟩=some v
namespace RdN
variable {w w':World} {n c:Nat} {p:Option Addr} {X:List (List Value)}
theorem but (h:RdN w n p c X) {l:List Nat} (k:But l w w') (hf:∀ b o,p=some ⟨b,o,none⟩ → b ∉ l):RdN w' n p c X:=by
 refine ⟨h.le,h.cap,fun h0=>?_⟩
 obtain ⟨b,o,rfl,hb,hc⟩:=h.cells h0
 exact ⟨b,o,rfl,Nat.lt_of_lt_of_le hb k.size,fun j x i v hx hv=>(k.cell hb (hf b o rfl) _).trans (hc j x i v hx hv)⟩
theorem ext (h:RdN w n p c X) (k:Ext w w'):RdN w' n p c X:=h.but (l:=[]) (But.ofExt k) (by simp)
end RdN
structure RowN (w:World) (n:Nat) (t:TypeId) (p:Option Addr) (c:Nat) (X:List (List Value)):Prop where
 own:w.ownsRow 0 t n (.slice p X.length c) X.length X.flatten
 len:∀ x ∈ X,x.length=n
theorem flatten_get {n:Nat}:∀ {X:List (List Value)} {j i:Nat} {x:List Value} {v:Value},(∀ x ∈ X,x.length=n) → X[j]? = some x → x[i]? = some v → X.flatten[j * n+i]? = some v
 | [],_,_,_,_,_,h,_=>by simp at h
 | y :: r,0,i,x,v,hl,hx,hv=>by
  simp only [List.getElem?_cons_zero,Option.some.injEq] at hx;subst hx;rw [List.flatten_cons,Nat.zero_mul,Nat.zero_add,List.getElem?_append_left (List.getElem?_eq_some_iff.1 hv).1];exact hv
 | y :: r,j+1,i,x,v,hl,hx,hv=>by
  have e:=hl y (by simp);rw [List.flatten_cons,List.getElem?_append_right (by rw [e,Nat.succ_mul];omega),e,show (j+1) * n+i-n=j * n+i by rw [Nat.succ_mul];omega];exact flatten_get (fun x hx=>hl x (by simp [hx])) (by simpa using hx) hv
theorem flatten_len {n:Nat}:∀ {X:List (List Value)},(∀ x ∈ X,x.length=n) → X.flatten.length=X.length * n
 | [],_=>by simp
 | y :: r,h=>by
  rw [List.flatten_cons,List.length_append,flatten_len (n:=n) (fun x hx=>h x (by simp [hx])),h y (by simp),List.length_cons,Nat.succ_mul];omega
namespace RowN
variable {w w':World} {n c:Nat} {t:TypeId} {p:Option Addr} {X:List (List Value)}
theorem nil (w:World) (n:Nat) (t:TypeId):RowN w n t none 0 []:=⟨World.ownsRow_nil w _ _ _,by simp⟩
theorem ptr (h:RowN w n t p c X) {b o:Nat} (e:p=some ⟨b,o,none⟩):o=0 ∧ b < w.heap.size:=by
 rcases h.own.2 with ⟨e',_⟩ | ⟨g,cap,cur,e',hb,hg,_⟩
 · injection e' with e1
   rw [e] at e1
   cases e1
 · injection e' with e1
   rw [e] at e1
   cases e1
   exact ⟨rfl,(Array.getElem?_eq_some_iff.1 hg).1⟩
theorem rd (h:RowN w n t p c X):RdN w n p c X:=by
 rcases h.own.2 with ⟨e,hz⟩ | ⟨g,cap,cur,e,hb,hg,r1,r2,r3,r4⟩
 · injection e with e1 e2 e3
   exact ⟨by omega,by omega,fun h0=>by omega⟩
 · injection e with e1 e2 e3
   subst e1 e3;refine ⟨r1,by unfold maxLen at r2;omega,fun _=>⟨g,0,rfl,(Array.getElem?_eq_some_iff.1 hg).1,fun j x i v hx hv=>?_⟩⟩;have:=h.own.cells (g:=g) rfl (j * n+i) v (flatten_get h.len hx hv);rw [Addr.add_lit] at this;exact this
theorem but (h:RowN w n t p c X) {l:List Nat} (k:But l w w') (hf:∀ b o,p=some ⟨b,o,none⟩ → b ∉ l):RowN w' n t p c X:=by
 refine ⟨⟨h.own.1, ?_⟩,h.len⟩
 rcases h.own.2 with e | ⟨g,cap,cur,e,hb,hg,r⟩
 · exact .inl e
 · refine .inr ⟨g,cap,cur,e,hb, ?_,r⟩;have hl:=(Array.getElem?_eq_some_iff.1 hg).1;have e1:p=some ⟨g,0,none⟩:=by
    injection e
   rw [k.block g hl (hf g 0 e1)];exact hg
theorem ext (h:RowN w n t p c X) (k:Ext w w'):RowN w' n t p c X:=h.but (l:=[]) (But.ofExt k) (by simp)
theorem own_blk (h:RowN w n t p c X):∀ r,(Value.slice p X.length c).ownBlock=some r → p=some ⟨r,0,none⟩:=fun r hr=>by
 rcases h.own.2 with ⟨e',_⟩ | ⟨g',cap',cur',e',_⟩
 · injection e' with e1
   subst e1;simp [Value.ownBlock] at hr
 · injection e' with e1
   subst e1;have:g'=r:=by simpa [Value.ownBlock] using hr
   rw [this]
end RowN
theorem wpList_append_N {w:World} {ops:Array Oper} {rest:List Oper} {o:Oper} {a:Act} {Q:Exit → Act → World → Prop} (hgd:o.guard=none) (s x:Operand) (T t:TypeId)
    (ho:o.op = .call { callee:=.builtin .append,args:=#[s,x],argTypes:=#[T,T] }) {z:Value} {n bytes:Nat} (hT:Tryz.prog.underlying T=some (.slice t)) (hinfo:(Tryz.prog.info? t).map (fun i=>(i.zero,i.size,i.bytes))=some (some z,n,bytes)) (hzn:z.cells.size=n) (hn0:0 < n) (hby:bytes ≤ 1000)
    {c b m:Nat} {p:Option Addr} {X:List (List Value)} {y:List Value} (hm:X.length=m) (hs:a.eval s = .slice p m c) (hx:a.eval x = .slice (some ⟨b,0,none⟩) 1 1)
    (hrow:RowN w n t p c X) (hyl:y.length=n) (hy:∀ i v,y[i]? = some v → w.cell? ⟨b,i,none⟩=some v) (hone:∀ v ∈ y,v.oneCell'=true) (hlen:m < 10000000)
    (h:∀ g cap w' row,RowN w' n t (some ⟨g,0,none⟩) cap (X ++ [y]) → w.grownBy w' row → (∀ r,row=some r → p=some ⟨r,0,none⟩) → (p=some ⟨g,0,none⟩ ∨ g=w.heap.size) → g < w'.heap.size → wpList Tryz.prog ops Q rest (a.put o.dst (.slice (some ⟨g,0,none⟩) (m+1) cap)) w'):wpList Tryz.prog ops Q (o :: rest) a w:=by
  subst hm;obtain ⟨i0,hi,hz0,hz1,hz2⟩:=info_parts hinfo;refine wpList_append_lies w hgd s x T ho 0 t i0 z n bytes hT hi hz0 hz1 hz2 hzn hn0 _ _ _ hs hrow.own ⟨b,0,none⟩ 1 1 y hx (by rw [hyl,Nat.one_mul]) (fun j u hj=>?_) hone (by omega) (by unfold maxLen;omega) (Nat.le_trans (Nat.mul_le_mul (show X.length+1 ≤ 10000000 by omega) hby) (by decide)) (Nat.zero_le _) _ rfl ?_
  · rw [Addr.add_lit]
    simpa using hy j u hj
  · intro g cap w' hown hgrow hor hlt;have own:=hrow.own_blk;refine h g cap w' _ ⟨by simpa using hown,fun u hu=>?_⟩ hgrow own (hor.imp (own g) id) hlt
    rcases List.mem_append.1 hu with hu | hu
    · exact hrow.len u hu
    · rw [List.mem_singleton.1 hu];exact hyl
def blk:Option Addr → List Nat
 | some a=>[a.block]
 | none=>[]
theorem mem_blk {p:Option Addr} {b o:Nat} (e:p=some ⟨b,o,none⟩):b ∈ blk p:=by subst e;simp [blk]
theorem blk_inv {p:Option Addr} {b:Nat} (h:b ∈ blk p):∃ o s,p=some ⟨b,o,s⟩:=by
 cases p with
 | none=>simp [blk] at h
 | some a=>
  simp only [blk,List.mem_singleton] at h;subst h;exact ⟨_,_,rfl⟩
def endC (v:Int × Int):List Value:=[.int .u8 v.1,.int .i64 v.2]
def nodeC (q:Int × List Int) (k:Option Addr × Nat):List Value:=[.int .i64 q.1,.slice k.1 q.2.length k.2]
structure DgL where
 ps:Option Addr
 cs:Nat
 po:Option Addr
 co:Nat
 pe:Option Addr
 ce:Nat
 pn:Option Addr
 cn:Nat
 K:List (Option Addr × Nat)
def DgL.blocks (L:DgL):List Nat:=blk L.ps ++ blk L.po ++ blk L.pe ++ blk L.pn ++ L.K.flatMap (fun k=>blk k.1)
def DgL.cells (L:DgL) (zs os es ns:Nat) (x:Int):Array Value:=#[.slice L.ps zs L.cs,.slice L.po os L.co,.slice L.pe es L.ce,.slice L.pn ns L.cn,.int .i64 x]
structure DgRd (w:World) (L:DgL) (z o:List Int) (E:List (Int × Int)) (N:List (Int × List Int)):Prop where
 s:SliceAt w L.ps L.cs z
 o:SliceAt w L.po L.co o
 e:RdN w 2 L.pe L.ce (E.map endC)
 n:RdN w 2 L.pn L.cn (List.zipWith nodeC N L.K)
 kl:L.K.length=N.length
 ks:∀ (j:Nat) (q:Int × List Int) (k:Option Addr × Nat),N[j]? = some q → L.K[j]? = some k → SliceAt w k.1 k.2 q.2
theorem DgRd.but {w w':World} {L:DgL} {z o:List Int} {E:List (Int × Int)} {N:List (Int × List Int)} (h:DgRd w L z o E N) {l:List Nat} (k:But l w w') (hl:∀ b ∈ l,b ∉ L.blocks):DgRd w' L z o E N:=by
 have key:∀ b,b ∈ L.blocks → b ∉ l:=fun b hb hm=>hl b hm hb
 refine ⟨h.s.but k fun b o e=>key b ?_,h.o.but k fun b o e=>key b ?_,h.e.but k fun b o e=>key b ?_,h.n.but k fun b o e=>key b ?_,h.kl,fun j q kk hq hk=>(h.ks j q kk hq hk).but k fun b o e=>key b ?_⟩
 all_goals simp only [DgL.blocks,List.mem_append,List.mem_flatMap]
 · exact .inl (.inl (.inl (.inl (mem_blk e))))
 · exact .inl (.inl (.inl (.inr (mem_blk e))))
 · exact .inl (.inl (.inr (mem_blk e)))
 · exact .inl (.inr (mem_blk e))
 · exact .inr ⟨kk,List.mem_of_getElem? hk,mem_blk e⟩
theorem DgRd.ext {w w':World} {L:DgL} {z o:List Int} {E:List (Int × Int)} {N:List (Int × List Int)} (h:DgRd w L z o E N) (k:Ext w w'):DgRd w' L z o E N:=h.but (l:=[]) (But.ofExt k) (by simp)
open Go.RowKit Go.Maps
theorem eq_val (a b a' b':Int) (u:World):Sem.run Tryz.prog (Op.equalIn 10000 43 (.agg #[.int .u8 a,.int .i64 b]) (.agg #[.int .u8 a',.int .i64 b'])) u = .ok (decide ((a,b)=(a',b'))) u:=by
 rw [show (10000:Nat)=9999+1 from rfl]
 rw [run_equalIn_agg u 9999 43 _ _ (by kernel_rfl) (by kernel_rfl)]
 go_simp
 by_cases h:a=a' <;> by_cases k:b=b' <;> simp [h,k]
theorem map_endC_get {E:List (Int × Int)} {j:Nat} {v:Int × Int} (h:E[j]? = some v):(E.map endC)[j]? = some [.int .u8 v.1,.int .i64 v.2]:=by
 rw [List.getElem?_map,h]
 rfl
theorem RdN.end_cells {w:World} {p:Option Addr} {c:Nat} {E:List (Int × Int)} (h:RdN w 2 p c (E.map endC)) (h0:0 < E.length):∃ b o,p=some ⟨b,o,none⟩ ∧ b < w.heap.size ∧ ∀ (j:Nat) (v:Int × Int),E[j]? = some v → w.cell? ⟨b,o+j * 2,none⟩=some (.int .u8 v.1) ∧ w.cell? ⟨b,o+j * 2+1,none⟩=some (.int .i64 v.2):=by
 obtain ⟨b,o,rfl,hb,hc⟩:=h.cells (by simpa using h0)
 refine ⟨b,o,rfl,hb,fun j v hv=>⟨?_, ?_⟩⟩
 · exact hc j _ 0 _ (map_endC_get hv) rfl
 · exact hc j _ 1 _ (map_endC_get hv) rfl
theorem get_list {α:Type} {E:List α} {j:Nat} (h:j < E.length):∃ v,E[j]? = some v:=⟨E[j],List.getElem?_eq_getElem h⟩
theorem list_eq_of_get {α:Type} {l m:List α} (hl:l.length=m.length) (h:∀ i,i < l.length → l[i]? = m[i]?):l=m:=by
 apply List.ext_getElem? 
 intro i
 by_cases hi:i < l.length
 · exact h i hi
 · rw [List.getElem?_eq_none (by omega),List.getElem?_eq_none (by omega)]
set_option maxRecDepth 100000 in
set_option maxHeartbeats 4000000 in
theorem dAlike_any {w:World} {p q:Option Addr} {c d:Nat} {E F:List (Int × Int)} (h:RdN w 2 p c (E.map endC)) (k:RdN w 2 q d (F.map endC)) :
    Calls Tryz.prog 86 #[.slice p E.length c,.slice q F.length d] w fun e w'=>e = .returned (.bool (decide (E=F))) ∧ Ext w w':=by
  have hle:=h.le;have hcap:=h.cap;have hle':=k.le;have hcap':=k.cap;rw [List.length_map] at hle hle'
  by_cases hne:E.length=F.length
  case neg=>
   have e:decide (E=F)=false:=by
    apply decide_eq_false;intro e;exact hne (by rw [e])
   rw [e];clear h k e;generalize E.length=a at *;generalize F.length=b at *;have e1:((a:Int) == (b:Int))=false:=by simpa using (by omega:¬ (a:Int)=b)
   go_enter Tryz.func86,Tryz.ntmps86;go_wp2;go_returns;exact ⟨rfl,exx⟩
  case pos=>
   have H:=Lib.hid h;have K:=Lib.hid k;clear h k;rw [← hne];have HM:=Lib.hid hne;clear hne hle';generalize hL:E.length=n at hle ⊢;have HL:=Lib.hid hL;clear hL;have mixed:Tryz.prog.follows .mixedOrders=true:=by kernel_rfl
   go_enter Tryz.func86,Tryz.ntmps86;go_wp2
   go_loopg [5] n (fun g i wr=>∃ j:Nat,j ≤ n ∧ n-j ≤ g ∧ i = .int .i64 j ∧ Aside (Ext w wr) ∧ Aside (∀ i,i < j → E[i]? = F[i]?))
   case atStart=>exact ⟨0,Nat.zero_le _,by omega,rfl,Ext.refl w,fun m hm=>absurd hm (Nat.not_lt_zero _)⟩
   case round=>
    obtain ⟨j,hj,hg,rfl,HE,HA⟩:=hrel
    by_cases hlt:j < n
    · obtain ⟨f,hf⟩:=get_list (E:=E) (j:=j) (by rw [HL.out];exact hlt);obtain ⟨f',hf'⟩:=get_list (E:=F) (j:=j) (by rw [← HM.out,HL.out];exact hlt);obtain ⟨b,o,rfl,hb,hc⟩:=(H.out.ext HE.out).end_cells (by rw [HL.out];omega);obtain ⟨b',o',rfl,hb',hc'⟩:=(K.out.ext HE.out).end_cells (by rw [← HM.out,HL.out];omega);obtain ⟨g1,g2⟩:=hc j f hf;obtain ⟨k1,k2⟩:=hc' j f' hf';have EQ:=fun u=>eq_val f.1 f.2 f'.1 f'.2 u
      have HF:=Lib.hid hf;have HF':=Lib.hid hf';clear hf hc hf' hc';obtain ⟨f1,f2⟩:=f;obtain ⟨f1',f2'⟩:=f'
      by_cases he:(f1,f2)=(f1',f2')
      · simp only [he,decide_true] at EQ
        cases he
        go_wp2_with fail
        go_region_o
        go_wp2
        go_roundg (n-(j+1))
        case measure=>omega
        case rel=>
         refine ⟨j+1,by omega,by omega,by go_num,(show Aside _ from HE.out.drew),(show Aside _ from fun i hi=>?_)⟩
         by_cases e:i=j
         · subst e;rw [HF.out,HF'.out]
         · exact HA.out i (by omega)
      · simp only [he,decide_false] at EQ
        go_wp2_with fail
        go_region_o
        go_wp2;go_returns;refine ⟨?_,HE.out.drew⟩;have e:decide (E=F)=false:=by
         apply decide_eq_false;rintro rfl;have:=HF.out;rw [HF'.out] at this
         cases this
         exact he rfl
        rw [e];rfl
    · have:j=n:=by omega
      subst this;go_wp2;go_returns;refine ⟨?_,HE.out⟩;have e:decide (E=F)=true:=decide_eq_true (list_eq_of_get HM.out (by rw [HL.out];exact HA.out));rw [e];rfl
def dgV (L:DgL) (zs os es ns:Nat) (x:Int):Value:=.agg (L.cells zs os es ns x)
namespace Nd
open Hp
structure Dia where
 sizes:List Int
 order:List Int
 ends:List (Int × Int)
 nodes:List (Int × List Int)
 root:Int
namespace Dia
def nodeAt (d:Dia) (i:Nat):Int × List Int:=d.nodes[i]?.getD (0,[])
def endAt (d:Dia) (i:Nat):Int × Int:=d.ends[i]?.getD (0,0)
def srch (d:Dia):Nat → Int → List Int × List Int → List Int × List Int
 | 0,_,t=>t
 | n+1,r,t=>
  if r < 0 then (if -1-r ∈ t.2 then t else (t.1,t.2 ++ [-1-r]))
  else if r ∈ t.1 then t
  else
   let t:=(d.nodeAt r.toNat).2.foldl (fun t k=>d.srch n k t) t
   (t.1 ++ [r],t.2)
end Dia
structure Cl where
 known:List (Nat × Int)
 ends:List (Int × Int)
 nodes:List (Int × List Int)
def mEnd (v:Int × Int) (s:Cl):Int × Cl:=
 match s.ends.idxOf? v with
 | some i=>(-1-(i:Int),s)
 | none=>(-1-(s.ends.length:Int),{ s with ends:=s.ends ++ [v] })
def flat (l:List Int):Bool:=l.all fun k=>k == l.headD 0
def mNode (q:Int × List Int) (s:Cl):Int × Cl:=
 if flat q.2 then (q.2.headD 0,s) else
 match s.nodes.idxOf? q with
 | some i=>((i:Int),s)
 | none=>((s.nodes.length:Int),{ s with nodes:=s.nodes ++ [q] })
def mapS (f:Int → Cl → Int × Cl):List Int → Cl → List Int × Cl
 | [],s=>([],s)
 | k :: r,s=>
  let p:=f k s
  let q:=mapS f r p.2
  (p.1 :: q.1,q.2)
namespace Dia
def cfrom (d:Dia):Nat → Int → Cl → Int × Cl
 | 0,r,s=>(r,s)
 | n+1,r,s=>
  if r < 0 then mEnd (d.endAt (-1-r).toNat) s else
  match getI r.toNat s.known with
  | some x=>(x,s)
  | none=>
   let p:=mapS (d.cfrom n) (d.nodeAt r.toNat).2 s
   let q:=mNode ((d.nodeAt r.toNat).1,p.1) p.2
   (q.1,{ q.2 with known:=putI r.toNat q.1 q.2.known })
def Ref (d:Dia) (r:Int) (n:Nat):Prop:=r < n ∧ -1-r < d.ends.length
def Low (d:Dia):Prop:=∀ i,i < d.nodes.length → ∀ k ∈ (d.nodeAt i).2,d.Ref k i
end Dia
def upto (n:Nat):List Int:=(List.range n).map Int.ofNat
theorem mem_upto {n:Nat} {x:Int}:x ∈ upto n ↔ 0 ≤ x ∧ x < n:=by
 unfold upto
 simp only [List.mem_map,List.mem_range]
 constructor
 · rintro ⟨i,hi,rfl⟩;simp only [Int.ofNat_eq_natCast];omega
 · intro h;exact ⟨x.toNat,by omega,by simp only [Int.ofNat_eq_natCast];omega⟩
theorem upto_succ (n:Nat):upto (n+1)=upto n ++ [(n:Int)]:=by simp [upto,List.range_succ]
theorem upto_len (n:Nat):(upto n).length=n:=by simp [upto]
theorem upto_inj {a b:Nat} (h:upto a=upto b):a=b:=by simpa [upto_len] using congrArg List.length h
theorem upto_pre {l:List Int} {a:Nat} (h:l <+: upto a):l=upto l.length ∧ l.length ≤ a:=by
 have hl:l.length ≤ a:=by simpa [upto_len] using h.length_le
 refine ⟨?_,hl⟩
 have:=List.prefix_iff_eq_take.1 h
 rw [this]
 simp only [upto,← List.map_take,List.take_range,List.length_map,List.length_range]
structure Par (d:Dia) (s:Cl) (t:List Int × List Int) (a b:Nat):Prop where
 a_le:a ≤ d.nodes.length
 b_le:b ≤ d.ends.length
 nodes:s.nodes=d.nodes.take a
 ends:s.ends=d.ends.take b
 known:∀ i,getI i s.known=if i < a then some (i:Int) else none
 up:KeysUp s.known
 t:t=(upto a,upto b)
def Fine (d:Dia) (s:Cl) (t:List Int × List Int):Prop:=(t.1 <+: upto d.nodes.length ∧ t.2 <+: upto d.ends.length) ∨ (s.nodes <+: d.nodes ∧ s.ends <+: d.ends)
def ClLe (s s':Cl):Prop:=s.nodes <+: s'.nodes ∧ s.ends <+: s'.ends
theorem ClLe.refl (s:Cl):ClLe s s:=⟨List.prefix_refl _,List.prefix_refl _⟩
theorem ClLe.trans {a b c:Cl} (h:ClLe a b) (k:ClLe b c):ClLe a c:=⟨h.1.trans k.1,h.2.trans k.2⟩
def TLe (t t':List Int × List Int):Prop:=t.1 <+: t'.1 ∧ t.2 <+: t'.2
theorem TLe.refl (s:List Int × List Int):TLe s s:=⟨List.prefix_refl _,List.prefix_refl _⟩
theorem TLe.trans {a b c:List Int × List Int} (h:TLe a b) (k:TLe b c):TLe a c:=⟨h.1.trans k.1,h.2.trans k.2⟩
theorem Fine.back {d:Dia} {s s':Cl} {t t':List Int × List Int} (h:Fine d s' t') (k:ClLe s s') (j:TLe t t'):Fine d s t:=by
 rcases h with h | h
 · exact .inl ⟨j.1.trans h.1,j.2.trans h.2⟩
 · exact .inr ⟨k.1.trans h.1,k.2.trans h.2⟩
theorem mEnd_le (v:Int × Int) (s:Cl):ClLe s (mEnd v s).2:=by
 unfold mEnd
 split
 · exact ClLe.refl _
 · exact ⟨List.prefix_refl _,List.prefix_append _ _⟩
theorem mNode_le (q:Int × List Int) (s:Cl):ClLe s (mNode q s).2:=by
 unfold mNode
 split
 · exact ClLe.refl _
 · split
   · exact ClLe.refl _
   · exact ⟨List.prefix_append _ _,List.prefix_refl _⟩
theorem mapS_le {f:Int → Cl → Int × Cl} (hf:∀ k s,ClLe s (f k s).2):∀ (l:List Int) (s:Cl),ClLe s (mapS f l s).2
 | [],s=>ClLe.refl s
 | k :: r,s=>(hf k s).trans (mapS_le hf r _)
theorem cfrom_le (d:Dia):∀ (n:Nat) (r:Int) (s:Cl),ClLe s (d.cfrom n r s).2
 | 0,_,s=>ClLe.refl s
 | n+1,r,s=>by
  unfold Dia.cfrom
  split
  · exact mEnd_le _ _
  · split
    · exact ClLe.refl _
    · exact (mapS_le (cfrom_le d n) _ _).trans (mNode_le _ _)
theorem fold_le {g:List Int × List Int → Int → List Int × List Int} (hg:∀ t k,TLe t (g t k)):∀ (l:List Int) (t:List Int × List Int),TLe t (l.foldl g t)
 | [],t=>TLe.refl t
 | k :: r,t=>(hg t k).trans (fold_le hg r _)
theorem srch_le (d:Dia):∀ (n:Nat) (r:Int) (t:List Int × List Int),TLe t (d.srch n r t)
 | 0,_,t=>TLe.refl t
 | n+1,r,t=>by
  unfold Dia.srch
  split
  · split
    · exact TLe.refl _
    · exact ⟨List.prefix_refl _,List.prefix_append _ _⟩
  · split
    · exact TLe.refl _
    · have:=fold_le (fun t k=>srch_le d n k t) (d.nodeAt r.toNat).2 t;exact ⟨this.1.trans (List.prefix_append _ _),this.2⟩
theorem nodup_inj {α:Type} {l:List α} (hn:l.Nodup) {i j:Nat} {v:α} (hi:l[i]? = some v) (hj:l[j]? = some v):i=j:=by
 have hlt:i < l.length:=by
  rcases Nat.lt_or_ge i l.length with h | h
  · exact h
  · rw [List.getElem?_eq_none h] at hi
    cases hi
 exact (List.getElem?_inj hlt hn).1 (hi.trans hj.symm)
theorem idxOf?_take {α:Type} [BEq α] [LawfulBEq α] {l:List α} (hn:l.Nodup) {b e:Nat} {v:α} (he:l[e]? = some v):(l.take b).idxOf? v=if e < b then some e else none:=by
 have key:∀ j (hj:j < (l.take b).length),(l.take b)[j]=v → j=e ∧ j < b:=by
  intro j hj e';have hj':j < b ∧ j < l.length:=by simp only [List.length_take] at hj;omega
  refine ⟨nodup_inj hn ?_ he,hj'.1⟩;rw [List.getElem?_eq_getElem hj'.2];simp only [List.getElem_take] at e';rw [e']
 split
 · rename_i h;have hlt:e < (l.take b).length:=by
    have:e < l.length:=by
     rcases Nat.lt_or_ge e l.length with h | h
     · exact h
     · rw [List.getElem?_eq_none h] at he
       cases he
    simp only [List.length_take];omega
   have hv:(l.take b)[e]=v:=by
    have:(l.take b)[e]? = some v:=by rw [List.getElem?_take_of_lt h,he]
    rw [List.getElem?_eq_getElem hlt] at this;exact Option.some.inj this
   cases hx:(l.take b).idxOf? v with
   | none=>exact absurd (hv ▸ List.getElem_mem hlt) (List.idxOf?_eq_none_iff.1 hx)
   | some i=>
    obtain ⟨hi,he',_⟩:=List.idxOf?_eq_some_iff.1 hx;rw [(key i hi he').1]
 · rename_i h;rw [List.idxOf?_eq_none_iff];intro hm;obtain ⟨j,hj,e'⟩:=List.getElem_of_mem hm;have:=key j hj e';omega
theorem take_snoc {α:Type} {l:List α} {b:Nat} {v:α} (h:l[b]? = some v):l.take b ++ [v]=l.take (b+1):=by
 rw [List.take_add_one,h];rfl
theorem pre_snoc {α:Type} {l:List α} (hn:l.Nodup) {b e:Nat} {v:α} (hb:b ≤ l.length) (he:l[e]? = some v) (h:l.take b ++ [v] <+: l):b=e:=by
 obtain ⟨r,hr⟩:=h
 refine nodup_inj hn ?_ he
 rw [← hr]
 have hl:(l.take b).length=b:=by simp only [List.length_take];omega
 rw [List.append_assoc,List.getElem?_append_right (by omega),hl]
 simp
structure Once (d:Dia):Prop where
 ends:d.ends.Nodup
 nodes:d.nodes.Nodup
 flat:∀ q ∈ d.nodes,flat q.2=false
def Step (d:Dia) (n:Nat):Prop:=∀ (r:Int) (s:Cl) (t:List Int × List Int) (a b:Nat),d.Ref r n → n ≤ d.nodes.length → Par d s t a b → Fine d (d.cfrom (n+1) r s).2 (d.srch (n+1) r t) →
 ∃ a' b',(d.cfrom (n+1) r s).1=r ∧ Par d (d.cfrom (n+1) r s).2 (d.srch (n+1) r t) a' b' ∧ a' ≤ max a (r+1).toNat
theorem step_end {d:Dia} (O:Once d) (n:Nat) {r:Int} (hr:r < 0) {s:Cl} {t:List Int × List Int} {a b:Nat} (hR : -1-r < d.ends.length) (P:Par d s t a b) (hF:Fine d (d.cfrom (n+1) r s).2 (d.srch (n+1) r t)) :
    ∃ a' b',(d.cfrom (n+1) r s).1=r ∧ Par d (d.cfrom (n+1) r s).2 (d.srch (n+1) r t) a' b' ∧ a' ≤ max a (r+1).toNat:=by
  obtain ⟨e,rfl⟩:∃ e:Nat,r = -1-(e:Int):=⟨(-1-r).toNat,by omega⟩
  have he:e < d.ends.length:=by omega
  have hv:d.ends[e]? = some (d.endAt e):=by unfold Dia.endAt;rw [List.getElem?_eq_getElem he];rfl
  have h1:(-1-(-1-(e:Int))).toNat=e:=by omega
  have h2 : -1-(-1-(e:Int))=e:=by omega
  unfold Dia.cfrom Dia.srch at hF ⊢;simp only [if_pos hr,h1,h2,Int.toNat_natCast] at hF ⊢;have hi:=idxOf?_take O.ends (b:=b) hv;unfold mEnd at hF ⊢;rw [P.ends,hi,P.t] at hF ⊢
  by_cases hb:e < b
  · have hm:(e:Int) ∈ upto b:=mem_upto.2 ⟨by omega,by omega⟩;simp only [if_pos hb,if_pos hm] at hF ⊢;refine ⟨a,b,trivial, ?_,by omega⟩;rw [← P.t];exact P
  · have hm:¬ (e:Int) ∈ upto b:=fun h=>by have:=mem_upto.1 h;omega
    have hlen:(d.ends.take b).length=b:=by have:=P.b_le;simp only [List.length_take];omega
    simp only [if_neg hb,if_neg hm,hlen] at hF ⊢;have hbe:b=e:=by
     rcases hF with h | h
     · obtain ⟨_,h3⟩:=h;have h4:=(upto_pre h3).1;have h5:upto b ++ [(e:Int)]=upto b ++ [(b:Int)]:=by
        rw [← upto_succ]
        simpa [upto_len] using h4
       have:=List.append_cancel_left h5;simp only [List.cons.injEq,and_true] at this;omega
     · exact pre_snoc O.ends P.b_le hv h.2
    subst hbe;refine ⟨a,b+1,rfl,⟨P.a_le,he,P.nodes,take_snoc hv,P.known,P.up, ?_⟩,by omega⟩;rw [upto_succ]
theorem step_kids {d:Dia} {n m:Nat} (ih:Step d n) (hn:n ≤ d.nodes.length):∀ (l:List Int) (s:Cl) (t:List Int × List Int) (a b:Nat),(∀ k ∈ l,d.Ref k n ∧ (k+1).toNat ≤ m) → Par d s t a b → a ≤ m →
    Fine d (mapS (d.cfrom (n+1)) l s).2 (l.foldl (fun t k=>d.srch (n+1) k t) t) →
    ∃ a' b',(mapS (d.cfrom (n+1)) l s).1=l ∧ Par d (mapS (d.cfrom (n+1)) l s).2 (l.foldl (fun t k=>d.srch (n+1) k t) t) a' b' ∧ a' ≤ m
  | [],s,t,a,b,_,P,ha,_=>⟨a,b,rfl,P,ha⟩
  | k :: r,s,t,a,b,hl,P,ha,hF=>by
   have hk:=hl k (by simp);have hF1:Fine d (d.cfrom (n+1) k s).2 (d.srch (n+1) k t):=by
    refine hF.back ?_ ?_
    · exact mapS_le (cfrom_le d (n+1)) r _
    · exact fold_le (fun t k=>srch_le d (n+1) k t) r _
   obtain ⟨a1,b1,e1,P1,h1⟩:=ih k s t a b hk.1 hn P hF1;obtain ⟨a2,b2,e2,P2,h2⟩:=step_kids ih hn r _ _ a1 b1 (fun k hk=>hl k (by simp [hk])) P1 (by have:=hk.2;omega) hF;exact ⟨a2,b2,by simp only [mapS,e1,e2],P2,h2⟩
theorem getI_next {K:List (Nat × Int)} (hu:KeysUp K) {a:Nat} (h:∀ i,getI i K=if i < a then some (i:Int) else none):∀ i,getI i (putI a (a:Int) K)=if i < a+1 then some (i:Int) else none:=by
 intro i
 rw [getI_put hu,h i]
 by_cases e:i=a
 · subst e;simp
 · rw [if_neg e]
   by_cases h2:i < a
   · rw [if_pos h2,if_pos (by omega)]
   · rw [if_neg h2,if_neg (by omega)]
theorem step {d:Dia} (O:Once d) (hL:d.Low):∀ n,Step d n
 | n,r,s,t,a,b,hR,hn,P,hF=>by
  by_cases hr:r < 0
  · exact step_end O n hr hR.2 P hF
  obtain ⟨i,rfl⟩:∃ i:Nat,r=(i:Int):=⟨r.toNat,by omega⟩
  have hin:i < n:=by have:=hR.1;omega
  have hi:i < d.nodes.length:=by omega
  obtain ⟨n',rfl⟩:∃ n',n=n'+1:=⟨n-1,by omega⟩
  have ih:=step O hL n';have hv:d.nodes[i]? = some (d.nodeAt i):=by unfold Dia.nodeAt;rw [List.getElem?_eq_getElem hi];rfl
  rw [Dia.cfrom,Dia.srch] at hF ⊢;simp only [if_neg hr,Int.toNat_natCast] at hF ⊢;rw [P.known i] at hF ⊢
  by_cases ha:i < a
  · have hm:(i:Int) ∈ t.1:=by rw [P.t];exact mem_upto.2 ⟨by omega,by omega⟩
    simp only [if_pos ha,if_pos hm] at hF ⊢;exact ⟨a,b,trivial,P,by omega⟩
  have hm:¬ (i:Int) ∈ t.1:=fun h=>by rw [P.t] at h;have:=mem_upto.1 h;omega
  simp only [if_neg ha,if_neg hm] at hF ⊢;have hk:∀ k ∈ (d.nodeAt i).2,d.Ref k n' ∧ (k+1).toNat ≤ i:=by
   intro k hk;have:=hL i hi k hk;exact ⟨⟨by have:=this.1;omega,this.2⟩,by have:=this.1;omega⟩
  generalize ep:mapS (d.cfrom (n'+1)) (d.nodeAt i).2 s=p at hF ⊢;generalize eu:(d.nodeAt i).2.foldl (fun t k=>d.srch (n'+1) k t) t=u at hF ⊢;have hF1:Fine d p.2 u:=by
   rcases hF with h | h
   · exact .inl ⟨(List.prefix_append _ _).trans h.1,h.2⟩
   · have:=mNode_le ((d.nodeAt i).1,p.1) p.2;exact .inr ⟨this.1.trans h.1,this.2.trans h.2⟩
  obtain ⟨a1,b1,e1,P1,h1⟩:=step_kids (m:=i) ih (by omega) (d.nodeAt i).2 s t a b hk P (by omega) (by rw [ep,eu];exact hF1);rw [ep] at e1 P1;rw [eu] at P1;have hq:((d.nodeAt i).1,p.1)=d.nodeAt i:=by rw [e1]
  rw [hq] at hF ⊢;have hfl:flat (d.nodeAt i).2=false:=O.flat _ (List.mem_of_getElem? hv);have hix:=idxOf?_take O.nodes (b:=a1) hv;rw [if_neg (by omega)] at hix;have hlen:(d.nodes.take a1).length=a1:=by have:=P1.a_le;simp only [List.length_take];omega
  unfold mNode at hF ⊢;simp only [hfl,Bool.false_eq_true,if_false,P1.nodes,hix,hlen] at hF ⊢;have hae:a1=i:=by
   rcases hF with h | h
   · have h3:=h.1;rw [P1.t] at h3;have h4:=(upto_pre h3).1;have h5:upto a1 ++ [(i:Int)]=upto a1 ++ [(a1:Int)]:=by
      rw [← upto_succ]
      simpa [upto_len] using h4
     have:=List.append_cancel_left h5;simp only [List.cons.injEq,and_true] at this;omega
   · exact pre_snoc O.nodes P1.a_le hv h.1
  subst hae;refine ⟨a1+1,b1,rfl,⟨hi,P1.b_le,take_snoc hv,P1.ends,getI_next P1.up P1.known,keysUp_put P1.up, ?_⟩,by omega⟩;rw [P1.t,upto_succ]
structure ClOk (s:Cl):Prop where
 ends:s.ends.Nodup
 nodes:s.nodes.Nodup
 flat:∀ q ∈ s.nodes,flat q.2=false
theorem nodup_snoc {α:Type} {l:List α} {v:α} (h:l.Nodup) (hv:v ∉ l):(l ++ [v]).Nodup:=by
 rw [List.nodup_append]
 refine ⟨h,by simp,fun a ha b hb e=>?_⟩
 simp only [List.mem_singleton] at hb
 exact hv (hb ▸ e ▸ ha)
theorem mEnd_ok {v:Int × Int} {s:Cl} (h:ClOk s):ClOk (mEnd v s).2:=by
 unfold mEnd
 split
 · exact h
 · rename_i e;exact ⟨nodup_snoc h.ends (List.idxOf?_eq_none_iff.1 e),h.nodes,h.flat⟩
theorem mNode_ok {q:Int × List Int} {s:Cl} (h:ClOk s):ClOk (mNode q s).2:=by
 unfold mNode
 split
 · exact h
 · rename_i hf
   split
   · exact h
   · rename_i e;refine ⟨h.ends,nodup_snoc h.nodes (List.idxOf?_eq_none_iff.1 e),fun q' hq=>?_⟩;simp only [List.mem_append,List.mem_singleton] at hq
     rcases hq with hq | rfl
     · exact h.flat _ hq
     · simpa using hf
theorem mapS_ok {f:Int → Cl → Int × Cl} (hf:∀ k s,ClOk s → ClOk (f k s).2):∀ (l:List Int) (s:Cl),ClOk s → ClOk (mapS f l s).2
 | [],_,h=>h
 | k :: r,s,h=>mapS_ok hf r _ (hf k s h)
theorem cfrom_ok (d:Dia):∀ (n:Nat) (r:Int) (s:Cl),ClOk s → ClOk (d.cfrom n r s).2
 | 0,_,_,h=>h
 | n+1,r,s,h=>by
  unfold Dia.cfrom
  split
  · exact mEnd_ok h
  · split
    · exact h
    · have:=mNode_ok (q:=((d.nodeAt r.toNat).1,(mapS (d.cfrom n) (d.nodeAt r.toNat).2 s).1)) (mapS_ok (cfrom_ok d n) (d.nodeAt r.toNat).2 s h);exact ⟨this.ends,this.nodes,this.flat⟩
namespace Dia
def clean (d:Dia):Int × Cl:=d.cfrom (d.nodes.length+1) d.root ⟨[],[],[]⟩
structure Is (d:Dia):Prop extends Once d where
 search:d.srch (d.nodes.length+1) d.root ([],[])=(upto d.nodes.length,upto d.ends.length)
end Dia
theorem clean_iff {d:Dia} (hL:d.Low) (hr:d.Ref d.root d.nodes.length):(d.clean.1=d.root ∧ d.clean.2.ends=d.ends ∧ d.clean.2.nodes=d.nodes) ↔ d.Is:=by
 have P0:Par d ⟨[],[],[]⟩ ([],[]) 0 0:=⟨by omega,by omega,by simp,by simp,fun i=>by simp [getI],List.Pairwise.nil,rfl⟩
 constructor
 · rintro ⟨_,h2,h3⟩;have hok:=cfrom_ok d (d.nodes.length+1) d.root ⟨[],[],[]⟩ ⟨by simp,by simp,by simp⟩;have O:Once d:=⟨h2 ▸ hok.ends,h3 ▸ hok.nodes,h3 ▸ hok.flat⟩
   obtain ⟨a,b,_,P,_⟩:=step O hL d.nodes.length d.root _ _ 0 0 hr (Nat.le_refl _) P0 (.inr ⟨by show d.clean.2.nodes <+: _;rw [h3];exact List.prefix_refl _,by show d.clean.2.ends <+: _;rw [h2];exact List.prefix_refl _⟩);refine ⟨O, ?_⟩;have ha:a=d.nodes.length:=by
    have:=P.nodes;rw [show (d.cfrom (d.nodes.length+1) d.root ⟨[],[],[]⟩).2.nodes=d.nodes from h3] at this;have h4:=congrArg List.length this;have:=P.a_le;simp only [List.length_take] at h4;omega
   have hb:b=d.ends.length:=by
    have:=P.ends;rw [show (d.cfrom (d.nodes.length+1) d.root ⟨[],[],[]⟩).2.ends=d.ends from h2] at this;have h4:=congrArg List.length this;have:=P.b_le;simp only [List.length_take] at h4;omega
   rw [P.t,ha,hb]
 · intro h;obtain ⟨a,b,e,P,_⟩:=step h.toOnce hL d.nodes.length d.root _ _ 0 0 hr (Nat.le_refl _) P0 (.inl (by rw [h.search];exact ⟨List.prefix_refl _,List.prefix_refl _⟩));have h4:=P.t;rw [h.search,Prod.mk.injEq] at h4;have ha:=upto_inj h4.1;have hb:=upto_inj h4.2;refine ⟨e, ?_, ?_⟩
   · show (d.cfrom _ _ _).2.ends=_;rw [P.ends,← hb,List.take_length]
   · show (d.cfrom _ _ _).2.nodes=_;rw [P.nodes,← ha,List.take_length]
end Nd
namespace Nd
open Hp
structure ClIn (d:Dia) (s:Cl):Prop where
 nd:s.ends.Nodup
 es:∀ v ∈ s.ends,v ∈ d.ends
 nn:s.nodes.length ≤ s.known.length
 up:KeysUp s.known
 kn:∀ p ∈ s.known,p.1 < d.nodes.length
 kv:∀ p ∈ s.known,-(s.ends.length:Int) ≤ p.2 ∧ p.2 < s.nodes.length
 ns:∀ q ∈ s.nodes,(∃ q' ∈ d.nodes,q.1=q'.1 ∧ q.2.length=q'.2.length) ∧ ∀ k ∈ q.2,-(s.ends.length:Int) ≤ k ∧ k < s.nodes.length
theorem ClIn.start (d:Dia):ClIn d ⟨[],[],[]⟩:=⟨List.nodup_nil,by simp,by simp,List.Pairwise.nil,by simp,by simp,by simp⟩
theorem nodup_len {α:Type} [DecidableEq α]:∀ {l m:List α},l.Nodup → (∀ x ∈ l,x ∈ m) → l.length ≤ m.length
 | [],_,_,_=>by simp
 | a :: r,m,h,k=>by
  have ha:=k a (by simp);obtain ⟨h1,h2⟩:=List.nodup_cons.1 h;have:=nodup_len (l:=r) (m:=m.erase a) h2 (fun x hx=>by
   have hne:x ≠ a:=fun e=>h1 (e ▸ hx)
   exact (List.mem_erase_of_ne hne).2 (k x (by simp [hx])))
  rw [List.length_erase_of_mem ha] at this;have:=List.length_pos_of_mem ha;simp;omega
theorem keysUp_len {M:List (Nat × Int)} {n:Nat} (h:KeysUp M) (k:∀ p ∈ M,p.1 < n):M.length ≤ n:=by
 have h1:(M.map Prod.fst).Nodup:=by
  rw [List.nodup_iff_pairwise_ne,List.pairwise_map];exact List.Pairwise.imp (fun {a b} hab=>Nat.ne_of_lt hab) h
 have:=nodup_len (m:=List.range n) h1 (fun x hx=>by
  obtain ⟨p,hp,rfl⟩:=List.mem_map.1 hx;exact List.mem_range.2 (k p hp))
 simpa using this
theorem ClIn.few {d:Dia} {s:Cl} (h:ClIn d s):s.ends.length ≤ d.ends.length ∧ s.nodes.length ≤ d.nodes.length ∧ s.known.length ≤ d.nodes.length:=
 ⟨nodup_len h.nd h.es,Nat.le_trans h.nn (keysUp_len h.up h.kn),keysUp_len h.up h.kn⟩
structure ClTo (d:Dia) (s:Cl) (r x:Int) (s':Cl):Prop where
 ok:ClIn d s'
 le:ClLe s s'
 lo : -(s'.ends.length:Int) ≤ x
 hi:x < s'.nodes.length
 kd:∀ p ∈ s'.known,p ∈ s.known ∨ (p.1:Int) ≤ r
theorem ClLe.len {s s':Cl} (h:ClLe s s'):s.ends.length ≤ s'.ends.length ∧ s.nodes.length ≤ s'.nodes.length:=⟨h.2.length_le,h.1.length_le⟩
theorem mEnd_to {d:Dia} {s:Cl} {v:Int × Int} {r:Int} (h:ClIn d s) (hv:v ∈ d.ends):ClTo d s r (mEnd v s).1 (mEnd v s).2:=by
 unfold mEnd
 cases hi:s.ends.idxOf? v with
 | some i=>
  have:=(List.findIdx?_eq_some_iff_getElem.1 hi).1;exact ⟨h,ClLe.refl s,by simp only;omega,by simp only;omega,fun p hp=>.inl hp⟩
 | none=>
  have hn:=List.idxOf?_eq_none_iff.1 hi;refine ⟨⟨nodup_snoc h.nd hn,fun x hx=>?_,h.nn,h.up,h.kn,fun p hp=>?_,fun q hq=>⟨(h.ns q hq).1,fun k hk=>?_⟩⟩,⟨List.prefix_refl _,List.prefix_append _ _⟩,by simp only [List.length_append,List.length_singleton];omega,by simp only;omega,fun p hp=>.inl hp⟩
  · rcases List.mem_append.1 hx with hx | hx
    · exact h.es x hx
    · rw [List.mem_singleton.1 hx];exact hv
  · have:=h.kv p hp;simp only [List.length_append,List.length_singleton];omega
  · have:=(h.ns q hq).2 k hk;simp only [List.length_append,List.length_singleton];omega
theorem mapS_len (f:Int → Cl → Int × Cl):∀ (l:List Int) (s:Cl),(mapS f l s).1.length=l.length
 | [],_=>rfl
 | _ :: r,_=>by simp [mapS,mapS_len f r]
structure ClTos (d:Dia) (s:Cl) (n:Nat) (xs:List Int) (s':Cl):Prop where
 ok:ClIn d s'
 le:ClLe s s'
 xs:∀ x ∈ xs,-(s'.ends.length:Int) ≤ x ∧ x < s'.nodes.length
 kd:∀ p ∈ s'.known,p ∈ s.known ∨ p.1 < n
theorem mapS_to {d:Dia} {f:Int → Cl → Int × Cl} {n:Nat}:∀ (l:List Int) (s:Cl),(∀ k ∈ l,k < n ∧ ∀ s,ClIn d s → ClTo d s k (f k s).1 (f k s).2) → ClIn d s → ClTos d s n (mapS f l s).1 (mapS f l s).2
 | [],s,_,h=>⟨h,ClLe.refl s,by simp [mapS],fun p hp=>.inl hp⟩
 | k :: r,s,hf,h=>by
  obtain ⟨hk,hfk⟩:=hf k (by simp);have T:=hfk s h;have R:=mapS_to r (f k s).2 (fun k hk=>hf k (by simp [hk])) T.ok;refine ⟨R.ok,T.le.trans R.le,fun x hx=>?_,fun p hp=>?_⟩
  · rcases List.mem_cons.1 hx with rfl | hx
    · have h1:=T.lo;have h2:=T.hi;have h3:=R.le.len;show -(((mapS f r (f k s).2).2.ends.length:Nat):Int) ≤ _ ∧ _ < (((mapS f r (f k s).2).2.nodes.length:Nat):Int)
      omega
    · exact R.xs x hx
  · rcases R.kd p hp with hp | hp
    · rcases T.kd p hp with hp | hp
      · exact .inl hp
      · exact .inr (by omega)
    · exact .inr hp
theorem mNode_to {d:Dia} {s:Cl} {q:Int × List Int} (h:ClIn d s) (hq:∃ q' ∈ d.nodes,q.1=q'.1 ∧ q.2.length=q'.2.length) (hk:∀ k ∈ q.2,-(s.ends.length:Int) ≤ k ∧ k < s.nodes.length) (h0:q.2 ≠ []) {a:Nat} (ha:getI a s.known=none) (hal:a < d.nodes.length) :
    ClTo d s a (mNode q s).1 { (mNode q s).2 with known:=putI a (mNode q s).1 (mNode q s).2.known }:=by
  have hl:(putI a (mNode q s).1 s.known).length=s.known.length+1:=Hp.putI_len h.up ha;have key:∀ (x:Int) (N:List (Int × List Int)),s.nodes <+: N → N.length ≤ s.nodes.length+1 → (∀ q ∈ N,(∃ q' ∈ d.nodes,q.1=q'.1 ∧ q.2.length=q'.2.length) ∧ ∀ k ∈ q.2,-(s.ends.length:Int) ≤ k ∧ k < N.length) → -(s.ends.length:Int) ≤ x → x < N.length → ClTo d s a x ⟨putI a x s.known,s.ends,N⟩:=by
   intro x N hp hN hns hx1 hx2;have hl:(putI a x s.known).length=s.known.length+1:=Hp.putI_len h.up ha;have hn:=h.nn;have hlen:=hp.length_le;refine ⟨⟨h.nd,h.es,by simp only [hl];omega,keysUp_put h.up,fun p hp=>?_,fun p hp=>?_,hns⟩,⟨hp,List.prefix_refl _⟩,hx1,hx2,fun p hp=>?_⟩
   · rcases mem_putI hp with rfl | hp
     · exact hal
     · exact h.kn p hp
   · rcases mem_putI hp with rfl | hp
     · exact ⟨hx1,hx2⟩
     · have:=h.kv p hp;simp only;omega
   · rcases mem_putI hp with rfl | hp
     · exact .inr (by simp)
     · exact .inl hp
  unfold mNode
  by_cases hf:flat q.2=true
  · rw [if_pos hf];have hm:q.2.headD 0 ∈ q.2:=by
     obtain ⟨v,l⟩:=q
     cases l with
     | nil=>exact absurd rfl h0
     | cons k r=>simp
    have:=hk _ hm;exact key (q.2.headD 0) s.nodes (List.prefix_refl _) (by omega) h.ns this.1 this.2
  · rw [if_neg hf]
    cases hi:s.nodes.idxOf? q with
    | some i=>
     have:=(List.findIdx?_eq_some_iff_getElem.1 hi).1;exact key (i:Int) s.nodes (List.prefix_refl _) (by omega) h.ns (by omega) (by omega)
    | none=>
     refine key (s.nodes.length:Int) (s.nodes ++ [q]) (List.prefix_append _ _) (by simp) (fun p hp=>?_) (by omega) (by simp;omega)
     rcases List.mem_append.1 hp with hp | hp
     · refine ⟨(h.ns p hp).1,fun k hk=>?_⟩;have:=(h.ns p hp).2 k hk;simp only [List.length_append,List.length_singleton];omega
     · rw [List.mem_singleton.1 hp];refine ⟨hq,fun k hk'=>?_⟩;have:=hk k hk';simp only [List.length_append,List.length_singleton];omega
theorem Dia.endAt_in {d:Dia} {i:Nat} (h:i < d.ends.length):d.endAt i ∈ d.ends:=by
 unfold Dia.endAt
 rw [List.getElem?_eq_getElem h]
 exact List.getElem_mem h
theorem Dia.nodeAt_in {d:Dia} {i:Nat} (h:i < d.nodes.length):d.nodeAt i ∈ d.nodes:=by
 unfold Dia.nodeAt
 rw [List.getElem?_eq_getElem h]
 exact List.getElem_mem h
theorem getI_of_mem {k:Nat} {x:Int}:∀ {M:List (Nat × Int)},KeysUp M → (k,x) ∈ M → getI k M=some x
 | [],_,h=>by cases h
 | (a,v) :: r,hu,h=>by
  obtain ⟨h1,h2⟩:=List.pairwise_cons.1 hu;unfold getI
  rcases List.mem_cons.1 h with e | h
  · cases e
    rw [if_pos rfl]
  · have:=h1 _ h;rw [if_neg (by simp only at this;omega)];exact getI_of_mem h2 h
theorem cfrom_to {d:Dia} (hL:d.Low) (h0:∀ q ∈ d.nodes,q.2 ≠ []):∀ (n:Nat) (r:Int) (s:Cl),d.Ref r n → n ≤ d.nodes.length → ClIn d s → ClTo d s r (d.cfrom (n+1) r s).1 (d.cfrom (n+1) r s).2
 | n,r,s,hr,hn,h=>by
  unfold Dia.cfrom
  by_cases hneg:r < 0
  · rw [if_pos hneg];exact mEnd_to h (Dia.endAt_in (by have:=hr.2;omega))
  · rw [if_neg hneg];obtain ⟨a,rfl⟩:∃ a:Nat,r=(a:Int):=⟨r.toNat,by omega⟩
    rw [Int.toNat_natCast];have han:a < n:=by have:=hr.1;omega
    cases hg:getI a s.known with
    | some x=>
     have:=h.kv _ (getI_in hg);exact ⟨h,ClLe.refl s,this.1,this.2,fun p hp=>.inl hp⟩
    | none=>
     obtain ⟨m,rfl⟩:∃ m,n=m+1:=⟨n-1,by omega⟩
     have hq:=Dia.nodeAt_in (d:=d) (i:=a) (by omega);have T:=mapS_to (d:=d) (f:=d.cfrom (m+1)) (n:=a) (d.nodeAt a).2 s (fun k hk=>by
      have hk:=hL a (by omega) k hk;exact ⟨hk.1,fun s hs=>cfrom_to hL h0 m k s ⟨by have:=hk.1;omega,hk.2⟩ (by omega) hs⟩) h
     have hnone:getI a (mapS (d.cfrom (m+1)) (d.nodeAt a).2 s).2.known=none:=by
      cases hx:getI a (mapS (d.cfrom (m+1)) (d.nodeAt a).2 s).2.known with
      | none=>rfl
      | some y=>
       exfalso
       rcases T.kd _ (getI_in hx) with hp | hp
       · have h1:getI a s.known ≠ none:=fun e=>by
           have:=getI_of_mem h.up hp;rw [e] at this
           cases this
         exact h1 hg
       · simp at hp
     have F:=mNode_to (s:=(mapS (d.cfrom (m+1)) (d.nodeAt a).2 s).2) (q:=((d.nodeAt a).1,(mapS (d.cfrom (m+1)) (d.nodeAt a).2 s).1)) T.ok ⟨d.nodeAt a,hq,rfl,mapS_len _ _ _⟩ T.xs (fun e=>h0 _ hq (List.eq_nil_of_length_eq_zero (by rw [← mapS_len (d.cfrom (m+1)) (d.nodeAt a).2 s];simp only at e;rw [e];rfl))) hnone (by omega);exact ⟨F.ok,T.le.trans F.le,F.lo,F.hi,fun p hp=>by
      rcases F.kd p hp with hp | hp
      · rcases T.kd p hp with hp | hp
        · exact .inl hp
        · exact .inr (by omega)
      · exact .inr hp⟩
end Nd
end Go.Proofs.YtdokmmhjmclmnaaGreat
