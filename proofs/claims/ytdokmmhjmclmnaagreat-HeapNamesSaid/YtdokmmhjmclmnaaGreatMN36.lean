/-
  Part 36 of a proof: PN7 NM6 NM7.
-/
import Derived.Test.YtdokmmhjmclmnaaGreatMN19
import Derived.Test.YtdokmmhjmclmnaaGreatMN35
set_option linter.unusedSimpArgs false
set_option linter.unusedVariables false
set_option linter.unusedSectionVars false
set_option linter.unnecessarySimpa false
namespace Go.Proofs.YtdokmmhjmclmnaaGreat
namespace Nd
open Hp
structure ClIn (d:Dia) (s:Cl):Prop where
 nd:s.ends.Nodup
 es:∀ v ∈ s.ends,v ∈ d.ends
 nn:s.nodes.length ≤ s.known.length
 up:KeysUp s.known
 kn:∀ p ∈ s.known,p.1 < d.nodes.length
 kv:∀ p ∈ s.known,-(s.ends.length:Int) ≤ p.2 ∧ p.2 < s.nodes.length
 ns:∀ q ∈ s.nodes,(∃ q' ∈ d.nodes,q.1=q'.1 ∧ q.2.length=q'.2.length) ∧ ∀ k ∈ q.2,-(s.ends.length:Int) ≤ k ∧ k < s.nodes.length
theorem ClIn.start (d:Dia):ClIn d ⟨[],[],[]⟩:=⟨List.nodup_nil,by simp,by simp,List.Pairwise.nil,by simp,by simp,by simp⟩
theorem nodup_len {α:Type} [DecidableEq α]:∀ {l m:List α},l.Nodup → (∀ x ∈ l,x ∈ m) → l.length ≤ m.length
 | [],_,_,_=>by simp
 | a :: r,m,h,k=>by
  have ha:=k a (by simp);obtain ⟨h1,h2⟩:=List.nodup_cons.1 h;have:=nodup_len (l:=r) (m:=m.erase a) h2 (fun x hx=>by
   have hne:x ≠ a:=fun e=>h1 (e ▸ hx)
   exact (List.mem_erase_of_ne hne).2 (k x (by simp [hx])))
  rw [List.length_erase_of_mem ha] at this;have:=List.length_pos_of_mem ha;simp;omega
theorem keysUp_len {M:List (Nat × Int)} {n:Nat} (h:KeysUp M) (k:∀ p ∈ M,p.1 < n):M.length ≤ n:=by
 have h1:(M.map Prod.fst).Nodup:=by
  rw [List.nodup_iff_pairwise_ne,List.pairwise_map];exact List.Pairwise.imp (fun {a b} hab=>Nat.ne_of_lt hab) h
 have:=nodup_len (m:=List.range n) h1 (fun x hx=>by
  obtain ⟨p,hp,rfl⟩:=List.mem_map.1 hx;exact List.mem_range.2 (k p hp))
 simpa using this
theorem ClIn.few {d:Dia} {s:Cl} (h:ClIn d s):s.ends.length ≤ d.ends.length ∧ s.nodes.length ≤ d.nodes.length ∧ s.known.length ≤ d.nodes.length:=
 ⟨nodup_len h.nd h.es,Nat.le_trans h.nn (keysUp_len h.up h.kn),keysUp_len h.up h.kn⟩
structure ClTo (d:Dia) (s:Cl) (r x:Int) (s':Cl):Prop where
 ok:ClIn d s'
 le:ClLe s s'
 lo : -(s'.ends.length:Int) ≤ x
 hi:x < s'.nodes.length
 kd:∀ p ∈ s'.known,p ∈ s.known ∨ (p.1:Int) ≤ r
theorem ClLe.len {s s':Cl} (h:ClLe s s'):s.ends.length ≤ s'.ends.length ∧ s.nodes.length ≤ s'.nodes.length:=⟨h.2.length_le,h.1.length_le⟩
theorem mEnd_to {d:Dia} {s:Cl} {v:Int × Int} {r:Int} (h:ClIn d s) (hv:v ∈ d.ends):ClTo d s r (mEnd v s).1 (mEnd v s).2:=by
 unfold mEnd
 cases hi:s.ends.idxOf? v with
 | some i=>
  have:=(List.findIdx?_eq_some_iff_getElem.1 hi).1;exact ⟨h,ClLe.refl s,by simp only;omega,by simp only;omega,fun p hp=>.inl hp⟩
 | none=>
  have hn:=List.idxOf?_eq_none_iff.1 hi;refine ⟨⟨nodup_snoc h.nd hn,fun x hx=>?_,h.nn,h.up,h.kn,fun p hp=>?_,fun q hq=>⟨(h.ns q hq).1,fun k hk=>?_⟩⟩,⟨List.prefix_refl _,List.prefix_append _ _⟩,by simp only [List.length_append,List.length_singleton];omega,by simp only;omega,fun p hp=>.inl hp⟩
  · rcases List.mem_append.1 hx with hx | hx
    · exact h.es x hx
    · rw [List.mem_singleton.1 hx];exact hv
  · have:=h.kv p hp;simp only [List.length_append,List.length_singleton];omega
  · have:=(h.ns q hq).2 k hk;simp only [List.length_append,List.length_singleton];omega
theorem mapS_len (f:Int → Cl → Int × Cl):∀ (l:List Int) (s:Cl),(mapS f l s).1.length=l.length
 | [],_=>rfl
 | _ :: r,_=>by simp [mapS,mapS_len f r]
structure ClTos (d:Dia) (s:Cl) (n:Nat) (xs:List Int) (s':Cl):Prop where
 ok:ClIn d s'
 le:ClLe s s'
 xs:∀ x ∈ xs,-(s'.ends.length:Int) ≤ x ∧ x < s'.nodes.length
 kd:∀ p ∈ s'.known,p ∈ s.known ∨ p.1 < n
theorem mapS_to {d:Dia} {f:Int → Cl → Int × Cl} {n:Nat}:∀ (l:List Int) (s:Cl),(∀ k ∈ l,k < n ∧ ∀ s,ClIn d s → ClTo d s k (f k s).1 (f k s).2) → ClIn d s → ClTos d s n (mapS f l s).1 (mapS f l s).2
 | [],s,_,h=>⟨h,ClLe.refl s,by simp [mapS],fun p hp=>.inl hp⟩
 | k :: r,s,hf,h=>by
  obtain ⟨hk,hfk⟩:=hf k (by simp);have T:=hfk s h;have R:=mapS_to r (f k s).2 (fun k hk=>hf k (by simp [hk])) T.ok;refine ⟨R.ok,T.le.trans R.le,fun x hx=>?_,fun p hp=>?_⟩
  · rcases List.mem_cons.1 hx with rfl | hx
    · have h1:=T.lo;have h2:=T.hi;have h3:=R.le.len;show -(((mapS f r (f k s).2).2.ends.length:Nat):Int) ≤ _ ∧ _ < (((mapS f r (f k s).2).2.nodes.length:Nat):Int)
      omega
    · exact R.xs x hx
  · rcases R.kd p hp with hp | hp
    · rcases T.kd p hp with hp | hp
      · exact .inl hp
      · exact .inr (by omega)
    · exact .inr hp
theorem mNode_to {d:Dia} {s:Cl} {q:Int × List Int} (h:ClIn d s) (hq:∃ q' ∈ d.nodes,q.1=q'.1 ∧ q.2.length=q'.2.length) (hk:∀ k ∈ q.2,-(s.ends.length:Int) ≤ k ∧ k < s.nodes.length) (h0:q.2 ≠ []) {a:Nat} (ha:getI a s.known=none) (hal:a < d.nodes.length) :
    ClTo d s a (mNode q s).1 { (mNode q s).2 with known:=putI a (mNode q s).1 (mNode q s).2.known }:=by
  have hl:(putI a (mNode q s).1 s.known).length=s.known.length+1:=Hp.putI_len h.up ha;have key:∀ (x:Int) (N:List (Int × List Int)),s.nodes <+: N → N.length ≤ s.nodes.length+1 → (∀ q ∈ N,(∃ q' ∈ d.nodes,q.1=q'.1 ∧ q.2.length=q'.2.length) ∧ ∀ k ∈ q.2,-(s.ends.length:Int) ≤ k ∧ k < N.length) → -(s.ends.length:Int) ≤ x → x < N.length → ClTo d s a x ⟨putI a x s.known,s.ends,N⟩:=by
   intro x N hp hN hns hx1 hx2;have hl:(putI a x s.known).length=s.known.length+1:=Hp.putI_len h.up ha;have hn:=h.nn;have hlen:=hp.length_le;refine ⟨⟨h.nd,h.es,by simp only [hl];omega,keysUp_put h.up,fun p hp=>?_,fun p hp=>?_,hns⟩,⟨hp,List.prefix_refl _⟩,hx1,hx2,fun p hp=>?_⟩
   · rcases mem_putI hp with rfl | hp
     · exact hal
     · exact h.kn p hp
   · rcases mem_putI hp with rfl | hp
     · exact ⟨hx1,hx2⟩
     · have:=h.kv p hp;simp only;omega
   · rcases mem_putI hp with rfl | hp
     · exact .inr (by simp)
     · exact .inl hp
  unfold mNode
  by_cases hf:flat q.2=true
  · rw [if_pos hf];have hm:q.2.headD 0 ∈ q.2:=by
     obtain ⟨v,l⟩:=q
     cases l with
     | nil=>exact absurd rfl h0
     | cons k r=>simp
    have:=hk _ hm;exact key (q.2.headD 0) s.nodes (List.prefix_refl _) (by omega) h.ns this.1 this.2
  · rw [if_neg hf]
    cases hi:s.nodes.idxOf? q with
    | some i=>
     have:=(List.findIdx?_eq_some_iff_getElem.1 hi).1;exact key (i:Int) s.nodes (List.prefix_refl _) (by omega) h.ns (by omega) (by omega)
    | none=>
     refine key (s.nodes.length:Int) (s.nodes ++ [q]) (List.prefix_append _ _) (by simp) (fun p hp=>?_) (by omega) (by simp;omega)
     rcases List.mem_append.1 hp with hp | hp
     · refine ⟨(h.ns p hp).1,fun k hk=>?_⟩;have:=(h.ns p hp).2 k hk;simp only [List.length_append,List.length_singleton];omega
     · rw [List.mem_singleton.1 hp];refine ⟨hq,fun k hk'=>?_⟩;have:=hk k hk';simp only [List.length_append,List.length_singleton];omega
theorem Dia.endAt_in {d:Dia} {i:Nat} (h:i < d.ends.length):d.endAt i ∈ d.ends:=by
 unfold Dia.endAt
 rw [List.getElem?_eq_getElem h]
 exact List.getElem_mem h
theorem Dia.nodeAt_in {d:Dia} {i:Nat} (h:i < d.nodes.length):d.nodeAt i ∈ d.nodes:=by
 unfold Dia.nodeAt
 rw [List.getElem?_eq_getElem h]
 exact List.getElem_mem h
theorem getI_of_mem {k:Nat} {x:Int}:∀ {M:List (Nat × Int)},KeysUp M → (k,x) ∈ M → getI k M=some x
 | [],_,h=>by cases h
 | (a,v) :: r,hu,h=>by
  obtain ⟨h1,h2⟩:=List.pairwise_cons.1 hu;unfold getI
  rcases List.mem_cons.1 h with e | h
  · cases e
    rw [if_pos rfl]
  · have:=h1 _ h;rw [if_neg (by simp only at this;omega)];exact getI_of_mem h2 h
theorem cfrom_to {d:Dia} (hL:d.Low) (h0:∀ q ∈ d.nodes,q.2 ≠ []):∀ (n:Nat) (r:Int) (s:Cl),d.Ref r n → n ≤ d.nodes.length → ClIn d s → ClTo d s r (d.cfrom (n+1) r s).1 (d.cfrom (n+1) r s).2
 | n,r,s,hr,hn,h=>by
  unfold Dia.cfrom
  by_cases hneg:r < 0
  · rw [if_pos hneg];exact mEnd_to h (Dia.endAt_in (by have:=hr.2;omega))
  · rw [if_neg hneg];obtain ⟨a,rfl⟩:∃ a:Nat,r=(a:Int):=⟨r.toNat,by omega⟩
    rw [Int.toNat_natCast];have han:a < n:=by have:=hr.1;omega
    cases hg:getI a s.known with
    | some x=>
     have:=h.kv _ (getI_in hg);exact ⟨h,ClLe.refl s,this.1,this.2,fun p hp=>.inl hp⟩
    | none=>
     obtain ⟨m,rfl⟩:∃ m,n=m+1:=⟨n-1,by omega⟩
     have hq:=Dia.nodeAt_in (d:=d) (i:=a) (by omega);have T:=mapS_to (d:=d) (f:=d.cfrom (m+1)) (n:=a) (d.nodeAt a).2 s (fun k hk=>by
      have hk:=hL a (by omega) k hk;exact ⟨hk.1,fun s hs=>cfrom_to hL h0 m k s ⟨by have:=hk.1;omega,hk.2⟩ (by omega) hs⟩) h
     have hnone:getI a (mapS (d.cfrom (m+1)) (d.nodeAt a).2 s).2.known=none:=by
      cases hx:getI a (mapS (d.cfrom (m+1)) (d.nodeAt a).2 s).2.known with
      | none=>rfl
      | some y=>
       exfalso
       rcases T.kd _ (getI_in hx) with hp | hp
       · have h1:getI a s.known ≠ none:=fun e=>by
           have:=getI_of_mem h.up hp;rw [e] at this
           cases this
         exact h1 hg
       · simp at hp
     have F:=mNode_to (s:=(mapS (d.cfrom (m+1)) (d.nodeAt a).2 s).2) (q:=((d.nodeAt a).1,(mapS (d.cfrom (m+1)) (d.nodeAt a).2 s).1)) T.ok ⟨d.nodeAt a,hq,rfl,mapS_len _ _ _⟩ T.xs (fun e=>h0 _ hq (List.eq_nil_of_length_eq_zero (by rw [← mapS_len (d.cfrom (m+1)) (d.nodeAt a).2 s];simp only at e;rw [e];rfl))) hnone (by omega);exact ⟨F.ok,T.le.trans F.le,F.lo,F.hi,fun p hp=>by
      rcases F.kd p hp with hp | hp
      · rcases T.kd p hp with hp | hp
        · exact .inl hp
        · exact .inr (by omega)
      · exact .inr hp⟩
end Nd
open Go.RowKit Go.Maps
structure Cn where
 mb:Nat
 db:Nat
 kb:Nat
 fb:Nat
 gk:Nat
def Cn.fixed (c:Cn):List Nat:=[c.mb,c.db,c.kb,c.fb]
def Cn.fv (c:Cn):Value:=.func (.func 196) #[] #[.pointer (some ⟨c.mb,0,none⟩),.pointer (some ⟨c.db,0,none⟩),.pointer (some ⟨c.kb,0,none⟩),.pointer (some ⟨c.fb,0,none⟩)]
def Cn.args (c:Cn) (r:Int):Array Value:=#[.int .i64 r,.pointer (some ⟨c.mb,0,none⟩),.pointer (some ⟨c.db,0,none⟩),.pointer (some ⟨c.kb,0,none⟩),.pointer (some ⟨c.fb,0,none⟩)]
structure CnSt (wb w:World) (c:Cn) (i:Mkr) (L:DgL) (d:Nd.Dia) (s:Nd.Cl) (pe:Option Addr) (ce:Nat) (pn:Option Addr) (cn:Nat) (K:List (Nat × Nat)):Prop where
 sm:MkSt wb w i s.ends s.nodes pe ce pn cn K
 m:w.cell? ⟨c.mb,0,none⟩=some (.pointer (some ⟨i.gm,0,none⟩))
 d:LsAt w c.db L d.sizes.length d.order.length d.ends.length d.nodes.length d.root
 k:w.cell? ⟨c.kb,0,none⟩=some (.map (some c.gk))
 f:w.cell? ⟨c.fb,0,none⟩=some c.fv
 map:MapIAt Tryz.prog w c.gk s.known
 lo:∀ b,b ∈ c.fixed ∨ b=c.gk → wb.heap.size ≤ b ∧ b < w.heap.size
 fx:∀ b,b ∈ c.fixed ∨ b=c.gk → b ∉ i.dyn pe pn ∧ b ∉ K.map Prod.fst
 gx:c.gk ∉ c.fixed
namespace CnSt
variable {wb w w':World} {c:Cn} {i:Mkr} {L:DgL} {d:Nd.Dia} {s:Nd.Cl} {pe pn:Option Addr} {ce cn:Nat} {K:List (Nat × Nat)}
theorem in1 (c:Cn):c.mb ∈ c.fixed:=by simp [Cn.fixed]
theorem in2 (c:Cn):c.db ∈ c.fixed:=by simp [Cn.fixed]
theorem in3 (c:Cn):c.kb ∈ c.fixed:=by simp [Cn.fixed]
theorem in4 (c:Cn):c.fb ∈ c.fixed:=by simp [Cn.fixed]
theorem lsBut {g n1 n2 n3 n4:Nat} {rt:Int} (h:LsAt w g L n1 n2 n3 n4 rt) {l:List Nat} (k:But l w w') (hg:g ∉ l):LsAt w' g L n1 n2 n3 n4 rt:=by
 have z:=cell_lt h.c0
 exact ⟨(k.cell z hg 0).trans h.c0,(k.cell z hg 1).trans h.c1,(k.cell z hg 2).trans h.c2,(k.cell z hg 3).trans h.c3,(k.cell z hg 4).trans h.c4,(k.cell z hg 5).trans h.c5,(k.cell z hg 6).trans h.c6⟩
theorem far (h:CnSt wb w c i L d s pe ce pn cn K) {l:List Nat} (k:But l w w') (hw:∀ b ∈ l,wb.heap.size ≤ b) (hl:∀ b ∈ l,b ∉ c.fixed ∧ b ≠ c.gk ∧ b ∉ i.dyn pe pn ∧ b ∉ K.map Prod.fst):CnSt wb w' c i L d s pe ce pn cn K:=by
 have f1:∀ b ∈ c.fixed,b ∉ l:=fun b hb hm=>(hl b hm).1 hb
 exact
  { sm:=h.sm.far k hw fun b hb=>(hl b hb).2.2
    m:=(k.cell (cell_lt h.m) (f1 _ (in1 c)) 0).trans h.m
    d:=lsBut h.d k (f1 _ (in2 c))
    k:=(k.cell (cell_lt h.k) (f1 _ (in3 c)) 0).trans h.k
    f:=(k.cell (cell_lt h.f) (f1 _ (in4 c)) 0).trans h.f
    map:=h.map.but k fun hm=>(hl _ hm).2.1 rfl
    lo:=fun b hb=>⟨(h.lo b hb).1,Nat.lt_of_lt_of_le (h.lo b hb).2 k.size⟩
    fx:=h.fx
    gx:=h.gx }
theorem ext' (h:CnSt wb w c i L d s pe ce pn cn K) (k:Ext w w'):CnSt wb w' c i L d s pe ce pn cn K:=h.far (l:=[]) (But.ofExt k) (by simp) (by simp)
theorem known_ (h:CnSt wb w c i L d s pe ce pn cn K) (k:But [c.gk] w w') {M:List (Nat × Int)} (hm:MapIAt Tryz.prog w' c.gk M):CnSt wb w' c i L d { s with known:=M } pe ce pn cn K:=by
 have f1:∀ b ∈ c.fixed,b ∉ [c.gk]:=fun b hb hm=>h.gx (by rw [← List.mem_singleton.1 hm];exact hb)
 have g:=h.lo c.gk (.inr rfl)
 have x:=h.fx c.gk (.inr rfl)
 exact
  { sm:=h.sm.far k (fun b hb=>by rw [List.mem_singleton.1 hb];exact g.1) fun b hb=>by rw [List.mem_singleton.1 hb];exact x
    m:=(k.cell (cell_lt h.m) (f1 _ (in1 c)) 0).trans h.m
    d:=lsBut h.d k (f1 _ (in2 c))
    k:=(k.cell (cell_lt h.k) (f1 _ (in3 c)) 0).trans h.k
    f:=(k.cell (cell_lt h.f) (f1 _ (in4 c)) 0).trans h.f
    map:=hm
    lo:=fun b hb=>⟨(h.lo b hb).1,Nat.lt_of_lt_of_le (h.lo b hb).2 k.size⟩
    fx:=h.fx
    gx:=h.gx }
theorem made (h:CnSt wb w c i L d s pe ce pn cn K) {E:List (Int × Int)} {N:List (Int × List Int)} {pe' pn':Option Addr} {ce' cn':Nat} {K':List (Nat × Nat)} (hm:MkSt wb w' i E N pe' ce' pn' cn' K') (k:But (i.dyn pe pn) w w') (hd:∀ b ∈ i.dyn pe' pn',b ∈ i.dyn pe pn ∨ w.heap.size ≤ b) (hk:∀ b ∈ K'.map Prod.fst,b ∈ K.map Prod.fst ∨ (b ∉ c.fixed ∧ b ≠ c.gk)):CnSt wb w' c i L d ⟨s.known,E,N⟩ pe' ce' pn' cn' K':=by
 have f1:∀ b ∈ c.fixed,b ∉ i.dyn pe pn:=fun b hb=>(h.fx b (.inl hb)).1
 exact
  { sm:=hm
    m:=(k.cell (cell_lt h.m) (f1 _ (in1 c)) 0).trans h.m
    d:=lsBut h.d k (f1 _ (in2 c))
    k:=(k.cell (cell_lt h.k) (f1 _ (in3 c)) 0).trans h.k
    f:=(k.cell (cell_lt h.f) (f1 _ (in4 c)) 0).trans h.f
    map:=h.map.but k (h.fx _ (.inr rfl)).1
    lo:=fun b hb=>⟨(h.lo b hb).1,Nat.lt_of_lt_of_le (h.lo b hb).2 k.size⟩
    fx:=fun b hb=>by
     have h1:=h.fx b hb;have h2:=(h.lo b hb).2;refine ⟨fun hm=>?_,fun hm=>?_⟩
     · rcases hd b hm with hm | hm
       · exact h1.1 hm
       · omega
     · rcases hk b hm with hm | hm
       · exact h1.2 hm
       · rcases hb with hb | hb
         · exact hm.1 hb
         · exact hm.2 hb
    gx:=h.gx }
end CnSt
def CnPost (wb w:World) (c:Cn) (i:Mkr) (L:DgL) (d:Nd.Dia) (dn:List Nat) (K0:List (Nat × Nat)) (x:Int) (s:Nd.Cl) (e:Ending) (w':World):Prop:=
 e = .returned (.int .i64 x) ∧ ∃ (pe:Option Addr) (ce:Nat) (pn:Option Addr) (cn:Nat) (K:List (Nat × Nat)),CnSt wb w' c i L d s pe ce pn cn K ∧ But (c.gk :: dn) w w' ∧ (∀ b ∈ i.dyn pe pn,b ∈ dn ∨ w.heap.size ≤ b) ∧ (∀ b ∈ K.map Prod.fst,b ∈ K0.map Prod.fst ∨ w.heap.size ≤ b)
set_option maxRecDepth 100000 in
set_option maxHeartbeats 8000000 in
theorem cn_known {wb w:World} {c:Cn} {i:Mkr} {L:DgL} {d:Nd.Dia} {s:Nd.Cl} {pe pn:Option Addr} {ce cn a:Nat} {K:List (Nat × Nat)} {x:Int} (h:CnSt wb w c i L d s pe ce pn cn K) (ha:(a:Int) ≤ 9223372036854775807) (hk:getI a s.known=some x) :
    Calls Tryz.prog 196 (c.args a) w (CnPost wb w c i L d (i.dyn pe pn) K x s):=by
  have H:=Lib.hid h;have k1:=h.k;have hlk:=h.map.lookOk (t:=119) Tryz.underlying3 Tryz.underlying119 (Tryz.zeroValue3 w) (k:=a) ha;rw [hk] at hlk;simp only [Option.getD_some,Option.isSome_some] at hlk;have t0:decide ((a:Int) < 0)=false:=decide_eq_false (by omega);clear h hk ha;unfold Cn.args;go_enter Tryz.func196,Tryz.ntmps196
  go_wp2_with fail
  go_returns;exact ⟨rfl,pe,ce,pn,cn,K,H.out,But.refl _ _,fun b hb=>.inl hb,fun b hb=>.inl hb⟩
theorem mkEnd_any {wb w:World} {i:Mkr} {s:Nd.Cl} {pe pn:Option Addr} {ce cn:Nat} {K:List (Nat × Nat)} (h:MkSt wb w i s.ends s.nodes pe ce pn cn K) {v:Int × Int} (hv:okV v) (hl:s.ends.length ≤ 100000) :
    Calls Tryz.prog 197 #[.pointer (some ⟨i.gm,0,none⟩),.agg #[.int .u8 v.1,.int .i64 v.2]] w (MkPost wb w i (i.dyn pe pn) (Nd.mEnd v s).1 (Nd.mEnd v s).2.ends (Nd.mEnd v s).2.nodes K):=by
  unfold Nd.mEnd
  cases hj:s.ends.idxOf? v with
  | some j=>exact mkEnd_old h hv hj (by have:=(List.findIdx?_eq_some_iff_getElem.1 hj).1;omega)
  | none=>exact mkEnd_new h hv hj hl
set_option maxRecDepth 100000 in
set_option maxHeartbeats 8000000 in
theorem cn_end {wb w:World} {c:Cn} {i:Mkr} {L:DgL} {d:Nd.Dia} {s:Nd.Cl} {pe pn:Option Addr} {ce cn:Nat} {K:List (Nat × Nat)} {r:Int} (hd:DgRd wb L d.sizes d.order d.ends d.nodes) (h:CnSt wb w c i L d s pe ce pn cn K) (h0:r < 0) (hr : -1-r < d.ends.length) (hv:∀ v ∈ d.ends,okV v) (hel:d.ends.length ≤ 1000) (hl:s.ends.length ≤ 100000) :
    Calls Tryz.prog 196 (c.args r) w (CnPost wb w c i L d (i.dyn pe pn) K (Nd.mEnd (d.endAt (-1-r).toNat) s).1 (Nd.mEnd (d.endAt (-1-r).toNat) s).2):=by
  obtain ⟨e,he⟩:∃ e:Nat,-1-r=(e:Int):=⟨(-1-r).toNat,by omega⟩
  rw [he,Int.toNat_natCast];obtain ⟨v,hv0⟩:=get_list (E:=d.ends) (j:=e) (by omega);have hev:d.endAt e=v:=by unfold Nd.Dia.endAt;rw [hv0];rfl
  rw [hev];have hov:=hv v (List.mem_of_getElem? hv0);obtain ⟨b,o,hp,hb,hc⟩:=hd.e.end_cells (by omega);obtain ⟨q1,q2⟩:=hc e v hv0;have q1:=(h.sm.ext.cell hb (o+e * 2)).trans q1;have q2:=(h.sm.ext.cell hb (o+e * 2+1)).trans q2;have l3:=hd.e.le;rw [List.length_map] at l3;have H:=Lib.hid h;have m1:=h.m;have d4:=h.d.c4;rw [hp] at d4;have NE:=Lib.hid (fun W=>nEnd (w:=W) r (by omega) h0);rw [he] at NE;have t0:decide (r < 0)=true:=decide_eq_true h0;have te:decide ((e:Int) < (d.ends.length:Int))=true:=decide_eq_true (by omega);have tl:e < d.ends.length:=by omega
  have HOV:=Lib.hid hov;have HLL:=Lib.hid hl;clear h hd hv hv0 hc hev hr h0 he hov hl;generalize d.ends.length=n3 at *;obtain ⟨f,n⟩:=v;simp only at q1 q2;unfold Cn.args;have mixed:Tryz.prog.follows .mixedOrders=true:=by kernel_rfl
  go_enter Tryz.func196,Tryz.ntmps196;go_upto_region 2 with fail
  refine wp_region_seq (S:=fun W=>W.cell? ⟨c.mb,0,none⟩=some (.pointer (some ⟨i.gm,0,none⟩)) ∧ W.cell? ⟨c.db,4,none⟩=some (.slice (some ⟨b,o,none⟩) n3 L.ce) ∧ W.cell? ⟨b,o+e * 2,none⟩=some (.int .u8 f) ∧ W.cell? ⟨b,o+e * 2+1,none⟩=some (.int .i64 n)) (R:=Eq) (by kernel_rfl) (fun _=>rfl) ?_ ?_
  · exact ⟨m1,d4,q1,q2⟩
  refine' wpAnyR_take (i:=0) (v:=?v0_1531) (fun _=>rfl) (fun _ _ _ h k=>h.trans k) rfl (by kernel_rfl) (by kernel_rfl) (by kernel_rfl) (fun _ _ _ h=>h) (Or.inl (Or.inl ⟨by rfl, ?hy0_1531⟩)) ?rest0_1531
  case hy0_1531=>(intro w hSw;(obtain ⟨s1,s2,s3,s4⟩:=hSw);go_simp;try with_reducible rfl)
  refine layy ?_;refine' wpAnyR_take (i:=1) (v:=?v1_1532) (fun _=>rfl) (fun _ _ _ h k=>h.trans k) rfl (by kernel_rfl) (by kernel_rfl) (by kernel_rfl) (fun _ _ _ h=>h) (Or.inl (Or.inl ⟨by rfl, ?hy1_1532⟩)) ?rest1_1532
  case hy1_1532=>(intro w hSw;(obtain ⟨s1,s2,s3,s4⟩:=hSw);go_simp;try with_reducible rfl)
  refine layy ?_;refine' wpAnyR_take (i:=2) (v:=?v2_1533) (fun _=>rfl) (fun _ _ _ h k=>h.trans k) rfl (by kernel_rfl) (by kernel_rfl) (by kernel_rfl) (fun _ _ _ h=>h) (Or.inl (Or.inl ⟨by rfl, ?hy2_1533⟩)) ?rest2_1533
  case hy2_1533=>(intro w hSw;(obtain ⟨s1,s2,s3,s4⟩:=hSw);go_simp;try with_reducible rfl)
  refine layy ?_;refine' wpAnyR_take (i:=3) (v:=?v3_1534) (fun _=>rfl) (fun _ _ _ h k=>h.trans k) rfl (by kernel_rfl) (by kernel_rfl) (by kernel_rfl) (fun _ _ _ h=>h) (Or.inl (Or.inl ⟨by rfl, ?hy3_1534⟩)) ?rest3_1534
  case hy3_1534=>(intro w hSw;(obtain ⟨s1,s2,s3,s4⟩:=hSw);go_simp;try with_reducible rfl)
  refine layy ?_;refine' wpAnyR_take (i:=4) (v:=?v4_1535) (fun _=>rfl) (fun _ _ _ h k=>h.trans k) rfl (by kernel_rfl) (by kernel_rfl) (by kernel_rfl) (fun _ _ _ h=>h) (Or.inl (Or.inl ⟨by rfl, ?hy4_1535⟩)) ?rest4_1535
  case hy4_1535=>(intro w hSw;(obtain ⟨s1,s2,s3,s4⟩:=hSw);go_simp;try with_reducible rfl)
  refine layy ?_;refine wpAnyE_call 5 (f:=198) (args:=#[.int .i64 r]) rfl (by kernel_rfl) (by rfl) ?run5 ?call5
  case run5=>go_simp
  refine (NE.out _).mono ?_;rintro e5 w5 ⟨rfl,hE5⟩;have E5:=Lib.hid (show Ext w w5 from (Ext.drew (Ext.refl w)).trans hE5);have m15:=(E5.out.cell (cell_lt m1) 0).trans m1;have d45:=(E5.out.cell (cell_lt d4) 4).trans d4;have q15:=(E5.out.cell (cell_lt q1) (o+e * 2)).trans q1;have q25:=(E5.out.cell (cell_lt q2) (o+e * 2+1)).trans q2;refine ⟨.int .i64 (e:Int),rfl,⟨m15,d45,q15,q25⟩, ?_⟩;clear hE5;refine layy ?_;refine' wpAnyR_take (i:=6) (v:=?v6_1536) (fun _=>rfl) (fun _ _ _ h k=>h.trans k) rfl (by kernel_rfl) (by kernel_rfl) (by kernel_rfl) (fun _ _ _ h=>h) (Or.inl (Or.inl ⟨by rfl, ?hy6_1536⟩)) ?rest6_1536
  case hy6_1536=>(intro w hSw;(obtain ⟨s1,s2,s3,s4⟩:=hSw);go_simp;try with_reducible rfl)
  refine layy ?_;refine' wpAnyR_take (i:=7) (v:=?v7_1537) (fun _=>rfl) (fun _ _ _ h k=>h.trans k) rfl (by kernel_rfl) (by kernel_rfl) (by kernel_rfl) (fun _ _ _ h=>h) (Or.inl (Or.inl ⟨by rfl, ?hy7_1537⟩)) ?rest7_1537
  case hy7_1537=>(intro w hSw;(obtain ⟨s1,s2,s3,s4⟩:=hSw);go_simp;try with_reducible rfl)
  refine layy ?_;refine wpAnyE_call 8 (f:=197) (args:=#[.pointer (some ⟨i.gm,0,none⟩),.agg #[.int .u8 f,.int .i64 n]]) rfl (by kernel_rfl) (by rfl) ?run8 ?call8
  case run8=>go_simp
  have N5:=Lib.hid (H.out.ext' E5.out);refine (mkEnd_any (s:=s) N5.out.sm HOV.out HLL.out).mono ?_;rintro e8 w8 ⟨rfl,pe',ce',pn',cn',hM,hB,hD⟩;have N8:=Lib.hid (N5.out.made hM hB hD (fun b hb=>.inl hb));have B8:=Lib.hid hB;have D8:=Lib.hid hD;refine ⟨.int .i64 (Nd.mEnd (f,n) s).1,rfl,⟨N8.out.m,(hB.cell (cell_lt d45) (N5.out.fx c.db (.inl (CnSt.in2 c))).1 4).trans d45, ?_, ?_⟩, ?_⟩
  · have hlt:b < wb.heap.size:=hb;exact (hB.cell (cell_lt q15) (fun hm=>by have:=(N5.out.sm.lo b (.inl hm)).1;omega) _).trans q15
  · have hlt:b < wb.heap.size:=hb;exact (hB.cell (cell_lt q15) (fun hm=>by have:=(N5.out.sm.lo b (.inl hm)).1;omega) _).trans q25
  clear hM hB hD;refine layy ?_;refine' wpAnyR_take (i:=9) (v:=?v9_1538) (fun _=>rfl) (fun _ _ _ h k=>h.trans k) rfl (by kernel_rfl) (by kernel_rfl) (by kernel_rfl) (fun _ _ _ h=>h) (Or.inl (Or.inl ⟨by rfl, ?hy9_1538⟩)) ?rest9_1538
  case hy9_1538=>(intro w _;go_simp;try with_reducible rfl)
  refine layy ?_;refine wpAnyR_done (by kernel_rfl) ?_ _;intro w9 e9 _;subst e9
  go_wp2_with fail
  go_returns;have hs:(⟨s.known,(Nd.mEnd (f,n) s).2.ends,(Nd.mEnd (f,n) s).2.nodes⟩:Nd.Cl)=(Nd.mEnd (f,n) s).2:=by
   unfold Nd.mEnd
   split <;> rfl
  have NF:=N8.out;rw [hs] at NF;have le5:=E5.out.le;refine ⟨rfl,pe',ce',pn',cn',K,NF,((But.ofExt E5.out).trans (B8.out.mono fun x hx=>List.mem_cons_of_mem _ hx)),fun b hb=>?_,fun b hb=>.inl hb⟩
  rcases D8.out b hb with h | h
  · exact .inl h
  · exact .inr (by omega)
open Go.RowKit Go.Maps
structure CnIn (d:Nd.Dia):Prop where
 low:d.Low
 el:d.ends.length ≤ 1000
 nl:d.nodes.length ≤ 1000
 ends:∀ v ∈ d.ends,okV v
 k0:∀ q ∈ d.nodes,q.2 ≠ []
 k12:∀ q ∈ d.nodes,q.2.length ≤ 12
 var:∀ q ∈ d.nodes,-9223372036854775808 ≤ q.1 ∧ q.1 ≤ 9223372036854775807
 one:∀ q ∈ d.nodes,∀ r ∈ d.nodes,q.1=r.1 → q.2.length=r.2.length
theorem mapS_snoc {f:Int → Nd.Cl → Int × Nd.Cl} {k:Int}:∀ {l:List Int} {s:Nd.Cl},Nd.mapS f (l ++ [k]) s=((Nd.mapS f l s).1 ++ [(f k (Nd.mapS f l s).2).1],(f k (Nd.mapS f l s).2).2)
 | [],_=>rfl
 | a :: r,s=>by simp [Nd.mapS,mapS_snoc (l:=r)]
theorem mkNode_any {wb w:World} {i:Mkr} {s:Nd.Cl} {pe pn:Option Addr} {ce cn g0 c0:Nat} {K:List (Nat × Nat)} {c:Int} {ks:List Int} (h:MkSt wb w i s.ends s.nodes pe ce pn cn K) (hs:SliceAt w (some ⟨g0,0,none⟩) c0 ks) (h0:wb.heap.size ≤ g0 ∧ g0 < w.heap.size) (h2:g0 ∉ i.dyn pe pn) (hl0:0 < ks.length) (hl1:ks.length ≤ 12)
    (hq:okN (keyQ (c,ks))) (hinj:∀ y ∈ s.nodes,keyQ y=keyQ (c,ks) → y=(c,ks)) (hnl:s.nodes.length ≤ 100000) :
    Calls Tryz.prog 199 #[.pointer (some ⟨i.gm,0,none⟩),.int .i64 c,.slice (some ⟨g0,0,none⟩) ks.length c0] w fun e w'=>e = .returned (.int .i64 (Nd.mNode (c,ks) s).1) ∧ ∃ (pe':Option Addr) (ce':Nat) (pn':Option Addr) (cn':Nat) (K':List (Nat × Nat)),MkSt wb w' i s.ends (Nd.mNode (c,ks) s).2.nodes pe' ce' pn' cn' K' ∧ But (i.dyn pe pn) w w' ∧ (∀ b ∈ i.dyn pe' pn',b ∈ i.dyn pe pn ∨ w.heap.size ≤ b) ∧ (∀ b ∈ K'.map Prod.fst,b ∈ K.map Prod.fst ∨ b=g0):=by
  unfold Nd.mNode
  cases hf:Nd.flat ks with
  | true=>
   simp only [hf,if_true];refine (mkNode_flat hs hl0 hf).mono ?_;rintro e w' ⟨rfl,hE⟩;exact ⟨rfl,pe,ce,pn,cn,K,h.ext' hE,But.ofExt hE,fun b hb=>.inl hb,fun b hb=>.inl hb⟩
  | false=>
   simp only [hf,Bool.false_eq_true,if_false]
   cases hj:s.nodes.idxOf? (c,ks) with
   | some j=>
    refine (mkNode_old h hs h0 h2 hf hl0 hl1 hq hinj hj (by have:=(List.findIdx?_eq_some_iff_getElem.1 hj).1;omega)).mono ?_;rintro e w' ⟨rfl,pe',ce',pn',cn',hM,hB,hD⟩;exact ⟨rfl,pe',ce',pn',cn',K,hM,hB,hD,fun b hb=>.inl hb⟩
   | none=>
    refine (mkNode_new h hs h0 h2 hf hl0 hl1 hq hinj hj hnl).mono ?_;rintro e w' ⟨rfl,pe',ce',pn',cn',hM,hB,hD⟩;refine ⟨rfl,pe',ce',pn',cn',_,hM,hB,hD,fun b hb=>?_⟩;rw [List.map_append] at hb
    rcases List.mem_append.1 hb with hb | hb
    · exact .inl hb
    · exact .inr (by simpa using hb)
structure KdSt (w wr:World) (c:Cn) (i:Mkr) (l0:List Nat) (K0:List (Nat × Nat)) (pe pn:Option Addr) (K:List (Nat × Nat)) (bb g:Nat) (v kv:Value) (R:List Int):Prop where
 but:But (c.gk :: l0) w wr
 dyn:∀ b ∈ i.dyn pe pn,b ∈ l0 ∨ w.heap.size ≤ b
 kk:∀ b ∈ K.map Prod.fst,b ∈ K0.map Prod.fst ∨ w.heap.size ≤ b
 b0:wr.cell? ⟨bb,0,none⟩=some v
 b1:wr.cell? ⟨bb,1,none⟩=some kv
 row:WordsAt wr g R
 new:w.heap.size ≤ bb ∧ w.heap.size ≤ g ∧ bb ≠ g
 far:∀ b,b=bb ∨ b=g → b ∉ c.fixed ∧ b ≠ c.gk ∧ b ∉ i.dyn pe pn ∧ b ∉ K.map Prod.fst
namespace KdSt
variable {w wr w':World} {c:Cn} {i:Mkr} {l0:List Nat} {K0 K K':List (Nat × Nat)} {pe pn pe' pn':Option Addr} {bb g:Nat} {v kv:Value} {R R':List Int}
theorem ext (h:KdSt w wr c i l0 K0 pe pn K bb g v kv R) (k:Ext wr w'):KdSt w w' c i l0 K0 pe pn K bb g v kv R:=
 { h with
   but:=h.but.ext k
   b0:=(k.cell (cell_lt h.b0) 0).trans h.b0
   b1:=(k.cell (cell_lt h.b0) 1).trans h.b1
   row:=h.row.ext k }
theorem set_ (h:KdSt w wr c i l0 K0 pe pn K bb g v kv R) {j:Nat} {x:Int} (hw:Hp.wr R j x=some R') (h1 : -9223372036854775808 ≤ x) (h2:x ≤ 9223372036854775807):KdSt w (wr.setCell ⟨g,j,none⟩ (.int .i64 x)) c i l0 K0 pe pn K bb g v kv R':=by
 have k:But [g] wr (wr.setCell ⟨g,j,none⟩ (.int .i64 x)):=(But.refl _ _).setCell (.inl (by simp)) _
 have hb:bb ∉ [g]:=by simpa using h.new.2.2
 exact
  { h with
    but:=h.but.over k fun b hb=>by rw [List.mem_singleton.1 hb];exact .inr h.new.2.1
    b0:=(k.cell (cell_lt h.b0) hb 0).trans h.b0
    b1:=(k.cell (cell_lt h.b0) hb 1).trans h.b1
    row:=h.row.set hw h1 h2 }
theorem step (h:KdSt w wr c i l0 K0 pe pn K bb g v kv R) (hb:But (c.gk :: i.dyn pe pn) wr w') (hd:∀ b ∈ i.dyn pe' pn',b ∈ i.dyn pe pn ∨ wr.heap.size ≤ b) (hk:∀ b ∈ K'.map Prod.fst,b ∈ K.map Prod.fst ∨ wr.heap.size ≤ b):KdSt w w' c i l0 K0 pe' pn' K' bb g v kv R:=by
 have zb:=cell_lt h.b0
 have zg:g < wr.heap.size:=h.row.lt
 have hw:=h.but.size
 have nb:∀ b,b=bb ∨ b=g → b ∉ c.gk :: i.dyn pe pn:=fun b hx hm=>by
  rcases List.mem_cons.1 hm with e | hm
  · exact (h.far b hx).2.1 e
  · exact (h.far b hx).2.2.1 hm
 refine ⟨?_,fun b hm=>?_,fun b hm=>?_,(hb.cell zb (nb bb (.inl rfl)) 0).trans h.b0,(hb.cell zb (nb bb (.inl rfl)) 1).trans h.b1,h.row.but hb (nb g (.inr rfl)),h.new,fun b hx=>⟨(h.far b hx).1,(h.far b hx).2.1,fun hm=>?_,fun hm=>?_⟩⟩
 · exact h.but.over hb fun x hx=>by
     rcases List.mem_cons.1 hx with e | hx
     · exact .inl (by rw [e];simp)
     · rcases h.dyn x hx with h | h
       · exact .inl (List.mem_cons_of_mem _ h)
       · exact .inr h
 · rcases hd b hm with hm | hm
   · exact h.dyn b hm
   · exact .inr (by omega)
 · rcases hk b hm with hm | hm
   · exact h.kk b hm
   · exact .inr (by omega)
 · rcases hd b hm with hm | hm
   · exact (h.far b hx).2.2.1 hm
   · rcases hx with rfl | rfl <;> omega
 · rcases hk b hm with hm | hm
   · exact (h.far b hx).2.2.2 hm
   · rcases hx with rfl | rfl <;> omega
end KdSt
theorem rep_set {xs:List Int} {m j:Nat} {x:Int} (hx:xs.length=j) (hj:j < m):Hp.wr (xs ++ List.replicate (m-j) 0) j x=some ((xs ++ [x]) ++ List.replicate (m-(j+1)) 0):=by
 unfold Hp.wr
 rw [if_pos (by simp;omega)]
 congr 1
 obtain ⟨r,hr⟩:∃ r,m-j=r+1:=⟨m-j-1,by omega⟩
 rw [hr,show m-(j+1)=r by omega,List.set_append_right _ _ (by omega),hx,Nat.sub_self,List.replicate_succ,List.set_cons_zero]
 simp
theorem rep_get {xs:List Int} {m j:Nat} (hx:xs.length=j) (hj:j < m):Hp.rd (xs ++ List.replicate (m-j) 0) j=some 0:=by
 unfold Hp.rd
 rw [List.getElem?_append_right (by omega),hx,Nat.sub_self,List.getElem?_replicate,if_pos (by omega)]
theorem WordsAt.sl {w:World} {g:Nat} {l:List Int} (h:WordsAt w g l) (hl:l.length ≤ 1000000):SliceAt w (some ⟨g,0,none⟩) l.length l:=
 ⟨Nat.le_refl _,by omega,h.wf,fun _=>⟨g,0,rfl,h.lt,fun i x hx=>by rw [Nat.zero_add];exact h.get hx⟩⟩
set_option maxRecDepth 100000 in
set_option maxHeartbeats 16000000 in
theorem cn_node {wb w:World} {c:Cn} {i:Mkr} {L:DgL} {d:Nd.Dia} {s:Nd.Cl} {pe pn:Option Addr} {ce cn a m:Nat} {K:List (Nat × Nat)} (hd:DgRd wb L d.sizes d.order d.ends d.nodes) (hin:CnIn d) (h:CnSt wb w c i L d s pe ce pn cn K) (hcl:Nd.ClIn d s) (ha:a ≤ m) (hm:m+1 ≤ d.nodes.length) (hk:getI a s.known=none)
    (IH:∀ (r:Int),d.Ref r m → ∀ (w:World) (s:Nd.Cl) (pe:Option Addr) (ce:Nat) (pn:Option Addr) (cn:Nat) (K:List (Nat × Nat)),CnSt wb w c i L d s pe ce pn cn K → Nd.ClIn d s → Calls Tryz.prog 196 (c.args r) w (CnPost wb w c i L d (i.dyn pe pn) K (d.cfrom (m+1) r s).1 (d.cfrom (m+1) r s).2)) :
    Calls Tryz.prog 196 (c.args a) w (CnPost wb w c i L d (i.dyn pe pn) K (d.cfrom (m+1+1) a s).1 (d.cfrom (m+1+1) a s).2):=by
  have hcf:d.cfrom (m+1+1) a s=((Nd.mNode ((d.nodeAt a).1,(Nd.mapS (d.cfrom (m+1)) (d.nodeAt a).2 s).1) (Nd.mapS (d.cfrom (m+1)) (d.nodeAt a).2 s).2).1,{ (Nd.mNode ((d.nodeAt a).1,(Nd.mapS (d.cfrom (m+1)) (d.nodeAt a).2 s).1) (Nd.mapS (d.cfrom (m+1)) (d.nodeAt a).2 s).2).2 with known:=putI a (Nd.mNode ((d.nodeAt a).1,(Nd.mapS (d.cfrom (m+1)) (d.nodeAt a).2 s).1) (Nd.mapS (d.cfrom (m+1)) (d.nodeAt a).2 s).2).1 (Nd.mNode ((d.nodeAt a).1,(Nd.mapS (d.cfrom (m+1)) (d.nodeAt a).2 s).1) (Nd.mapS (d.cfrom (m+1)) (d.nodeAt a).2 s).2).2.known }):=by
   rw [Nd.Dia.cfrom];rw [if_neg (by omega),Int.toNat_natCast,hk]
  rw [hcf];have hTo:=Nd.cfrom_to hin.low hin.k0 (m+1) (a:Int) s ⟨by omega,by omega⟩ hm hcl;rw [hcf] at hTo;have hTS:∀ j,Nd.ClTos d s a (Nd.mapS (d.cfrom (m+1)) ((d.nodeAt a).2.take j) s).1 (Nd.mapS (d.cfrom (m+1)) ((d.nodeAt a).2.take j) s).2:=fun j=>Nd.mapS_to _ s (fun k hk=>by
   have hk:=hin.low a (by omega) k (List.mem_of_mem_take hk);exact ⟨hk.1,fun s hs=>Nd.cfrom_to hin.low hin.k0 m k s ⟨by have:=hk.1;omega,hk.2⟩ (by omega) hs⟩) hcl
  have hkids:∀ k ∈ (d.nodeAt a).2,d.Ref k m:=fun k hk=>by
   have:=hin.low a (by omega) k hk;exact ⟨by have:=this.1;omega,this.2⟩
  obtain ⟨q,hq⟩:=get_list (E:=d.nodes) (j:=a) (by omega);obtain ⟨⟨kp,kc⟩,hkk⟩:=get_list (E:=L.K) (j:=a) (by rw [hd.kl];omega);obtain ⟨b,o,hp,hb,hc⟩:=hd.node_cells (by omega);obtain ⟨q1,q2⟩:=hc a q _ hq hkk;have SK:=hd.ks a q _ hq hkk;have hqa:d.nodeAt a=q:=by unfold Nd.Dia.nodeAt;rw [hq];rfl
  have hqm:=List.mem_of_getElem? hq;rw [hqa] at hTo hTS hkids ⊢;have hq0:0 < q.2.length:=List.length_pos_iff.2 (hin.k0 q hqm);have hq12:=hin.k12 q hqm;have hqv:=hin.var q hqm;have hone:=hin.one q hqm;have hnl:=hin.nl;have hel:=hin.el;have htl:a < d.nodes.length:=by omega
  have q1:=(h.sm.ext.cell hb (o+a * 2)).trans q1;have q2:=(h.sm.ext.cell hb (o+a * 2+1)).trans q2;have l4:=hd.n.le;rw [zip_nodeC_len hd.kl] at l4;have HSK:=Lib.hid (fun W (hE:Ext wb W)=>SK.ext hE);have skle:=SK.le;have skcap:=SK.cap;simp only at skle skcap;have H:=Lib.hid h;have k1:=h.k;have d5:=h.d.c5;rw [hp] at d5;have hlk:=h.map.lookOk (t:=119) Tryz.underlying3 Tryz.underlying119 (Tryz.zeroValue3 w) (k:=a) (by omega);rw [hk] at hlk;simp only [Option.getD_none,Option.isSome_none] at hlk;have t0:decide ((a:Int) < 0)=false:=decide_eq_false (by omega);have te:decide ((a:Int) < (d.nodes.length:Int))=true:=decide_eq_true (by omega);have HCL:=Lib.hid hcl;have HTO:=Lib.hid hTo;have HTS:=Lib.hid hTS;have HIH:=Lib.hid IH;have HKD:=Lib.hid hkids;have HONE:=Lib.hid hone;have HIN:=Lib.hid hin;obtain ⟨bk,okk,ekp,hbk,hck⟩:=SK.cells hq0;simp only at ekp;subst ekp;have HCK:=Lib.hid hck;obtain ⟨v,ks⟩:=q;simp only at q1 q2 skle skcap hq0 hq12 hqv HTO HTS HKD HONE ⊢;obtain ⟨n,hn⟩:∃ n,ks.length=n:=⟨_,rfl⟩
  have HN:=Lib.hid hn;rw [hn] at q2 skle hq0 hq12;have hmk:=run_make_row' (P:=Tryz.prog) 22 3 (.int .i64 0) 8 Tryz.underlying22 (show (Tryz.prog.info? 3).map (fun i=>(i.zero,i.size,i.bytes))=some (some (.int .i64 0),1,8) from by kernel_rfl) rfl .i64 .i64 n (by omega) (by omega);have HEW:=Lib.hid h.sm.ext.le
  have NF:=Lib.hid (fun (b:Nat) (hb:b ∈ c.fixed ∨ b=c.gk ∨ b ∈ i.dyn pe pn ∨ b ∈ K.map Prod.fst)=>(by
   rcases hb with hb | hb | hb | hb
   · exact (h.lo b (.inl hb)).2
   · exact (h.lo b (.inr hb)).2
   · exact (h.sm.lo b (.inl hb)).2
   · exact (h.sm.lo b (.inr hb)).2:b < w.heap.size))
  simp only at HCK;clear hck HSK;clear h hd hc hkk hqa hqm hp hcf hcl hTo hTS IH hkids hone hin SK hq hn hk ha;generalize hN4:d.nodes.length=n4 at *;have HN4:=Lib.hid hN4;clear hN4;unfold Cn.args;have mixed:Tryz.prog.follows .mixedOrders=true:=by kernel_rfl
  go_enter Tryz.func196,Tryz.ntmps196
  go_wp2_with fail
  clear hmk hlk;have E0:Ext w ((w.alloc (.cells #[.int .i64 v,.slice (some ⟨bk,okk,none⟩) n kc] 41)).alloc (.cells (madeCells #[.int .i64 0] n) 3)):=exx;have g1:((w.alloc (.cells #[.int .i64 v,.slice (some ⟨bk,okk,none⟩) n kc] 41)).alloc (.cells (madeCells #[.int .i64 0] n) 3)).cell? ⟨w.heap.size,0,none⟩=some (.int .i64 v):=by go_simp
  have g2:((w.alloc (.cells #[.int .i64 v,.slice (some ⟨bk,okk,none⟩) n kc] 41)).alloc (.cells (madeCells #[.int .i64 0] n) 3)).cell? ⟨w.heap.size,1,none⟩=some (.slice (some ⟨bk,okk,none⟩) n kc):=by go_simp
  have W0:WordsAt ((w.alloc (.cells #[.int .i64 v,.slice (some ⟨bk,okk,none⟩) n kc] 41)).alloc (.cells (madeCells #[.int .i64 0] n) 3)) (w.heap.size+1) (List.replicate n 0):=made_at _ n _ (by simp);refine cut_world (F:=fun W=>Hid (Ext w W) ∧ W.cell? ⟨w.heap.size,0,none⟩=some (.int .i64 v) ∧ W.cell? ⟨w.heap.size,1,none⟩=some (.slice (some ⟨bk,okk,none⟩) n kc) ∧ Hid (WordsAt W (w.heap.size+1) (List.replicate n 0))) ⟨Lib.hid E0,g1,g2,Lib.hid W0⟩ ?_;clear E0 g1 g2 W0;intro w1 ⟨E1,g1,g2,W1⟩;have N1:=Lib.hid (H.out.ext' E1.out)
  have KS0:Hid (KdSt w w1 c i (i.dyn pe pn) K pe pn K w.heap.size (w.heap.size+1) (.int .i64 v) (.slice (some ⟨bk,okk,none⟩) n kc) ([] ++ List.replicate (n-0) 0)):=Lib.hid
   { but:=But.ofExt E1.out
     dyn:=fun b hb=>.inl hb
     kk:=fun b hb=>.inl hb
     b0:=g1
     b1:=g2
     row:=W1.out
     new:=⟨Nat.le_refl _,by omega,by omega⟩
     far:=fun b hx=>by
      have hb2:w.heap.size ≤ b:=by omega
      refine ⟨fun hm=>?_,fun hm=>?_,fun hm=>?_,fun hm=>?_⟩
      · have:=NF.out b (.inl hm);omega
      · have:=NF.out b (.inr (.inl hm));omega
      · have:=NF.out b (.inr (.inr (.inl hm)));omega
      · have:=NF.out b (.inr (.inr (.inr hm)));omega }
  have HBK:=Lib.hid hbk;have HQV:=Lib.hid hqv;clear E1 g1 g2 W1 NF H q1 q2 d5 k1 hb l4 hbk hqv te;generalize w.heap.size+1=g at KS0 ⊢;generalize w.heap.size=bb at KS0 ⊢
  go_loopg [45] n (fun g' iv wr=>∃ (j:Nat) (sj:Nd.Cl) (xsj:List Int) (pe':Option Addr) (ce':Nat) (pn':Option Addr) (cn':Nat) (Kj:List (Nat × Nat)),j ≤ n ∧ n-j ≤ g' ∧ iv = .int .i64 j ∧ Hid (CnSt wb wr c i L d sj pe' ce' pn' cn' Kj) ∧ Hid (KdSt w wr c i (i.dyn pe pn) K pe' pn' Kj bb g (.int .i64 v) (.slice (some ⟨bk,okk,none⟩) n kc) (xsj ++ List.replicate (n-j) 0)) ∧ Aside (Nd.mapS (d.cfrom (m+1)) (ks.take j) s=(xsj,sj)))
  case atStart=>exact ⟨0,s,[],pe,ce,pn,cn,K,Nat.zero_le _,by omega,rfl,N1,KS0,rfl⟩
  case round=>
   obtain ⟨j,sj,xsj,pe',ce',pn',cn',Kj,hj,hg,rfl,NJ,KJ,RJ⟩:=hrel;clear N1 KS0;have TJ:=HTS.out j;rw [RJ.out] at TJ;simp only at TJ;have hxl:xsj.length=j:=by
    have:=congrArg (fun p=>p.1.length) RJ.out;simp only [Nd.mapS_len,List.length_take,HN.out] at this;omega
   have HXL:=Lib.hid hxl;have HTJ:=Lib.hid TJ;clear TJ hxl
   by_cases hlt:j < n
   · have tk:decide ((j:Int) < (n:Int))=true:=decide_eq_true (by omega);obtain ⟨k,hkj⟩:=get_list (E:=ks) (j:=j) (by rw [HN.out];exact hlt);have hkm:=List.mem_of_getElem? hkj;have T2:=Nd.cfrom_to HIN.out.low HIN.out.k0 m k sj (HKD.out k hkm) (by rw [HN4.out];omega) HTJ.out.ok;have CALL:=Lib.hid (HIH.out k (HKD.out k hkm));obtain ⟨x,hx⟩:∃ x,(d.cfrom (m+1) k sj).1=x:=⟨_,rfl⟩
     obtain ⟨s2,hs2⟩:∃ s2,(d.cfrom (m+1) k sj).2=s2:=⟨_,rfl⟩
     rw [hx,hs2] at T2;have HX:=Lib.hid hx;have HS2:=Lib.hid hs2;have few:=T2.ok.few;have bx : -9223372036854775808 ≤ x ∧ x ≤ 9223372036854775807:=by
      have h1:=T2.lo;have h2:=T2.hi;have h3:=few.2.1;have h4:=few.1;rw [HN4.out] at h3;omega
     have gk:=(NJ.out.sm.ext.cell HBK.out (okk+j)).trans (HCK.out j k hkj);have b1:=KJ.out.b1;have f4:=NJ.out.f;unfold Cn.fv at f4;unfold Cn.args at CALL;have HKJ:=Lib.hid hkj;have HBX:=Lib.hid bx;clear hkj hkm T2 few hx hs2 bx
     go_wp2_with fail
     refine Calls.mono (CALL.out wr sj pe' ce' pn' cn' Kj NJ.out HTJ.out.ok) ?_;rintro e w4 ⟨rfl,pe4,ce4,pn4,cn4,K4,N4,B4,Y4,Z4⟩;rw [HX.out];rw [HS2.out] at N4;have KJ4:=Lib.hid (KJ.out.step B4 Y4 Z4);have N4:=Lib.hid N4;have grow:=KJ4.out.row.get (rep_get HXL.out hlt);have frow:=KJ4.out.row.froz j;have KJ5:=Lib.hid (KJ4.out.set_ (rep_set (x:=x) HXL.out hlt) HBX.out.1 HBX.out.2);have N5:=Lib.hid (N4.out.far (l:=[g]) ((But.refl _ _).setCell (p:=⟨g,j,none⟩) (.inl (by simp)) (.int .i64 x)) (fun b hb=>by rw [List.mem_singleton.1 hb];exact Nat.le_trans HEW.out KJ4.out.new.2.1) (fun b hb=>by rw [List.mem_singleton.1 hb];exact KJ4.out.far g (.inr rfl)));clear B4 Y4 Z4 gk b1 f4 CALL KJ NJ
     go_wp2_with fail
     go_roundg (n-(j+1))
     case measure=>omega
     case rel=>exact ⟨j+1,s2,xsj ++ [x],pe4,ce4,pn4,cn4,K4,by omega,Nat.le_refl _,by go_num,N5,KJ5,(show Aside _ from by
      rw [List.take_add_one,HKJ.out];show Nd.mapS (d.cfrom (m+1)) (ks.take j ++ [k]) s=_;rw [mapS_snoc,RJ.out];simp only [HX.out,HS2.out])⟩
   · have:j=n:=by omega
     subst this;have tk:decide ((j:Int) < (j:Int))=false:=decide_eq_false (by omega);have RJ2:Nd.mapS (d.cfrom (m+1)) ks s=(xsj,sj):=by
      have h1:=RJ.out
      rwa [List.take_of_length_le (by rw [HN.out];exact Nat.le_refl _)] at h1
     have HRJ2:=Lib.hid RJ2;have TO:=HTO.out;rw [RJ2] at TO;obtain ⟨xr,hxr⟩:∃ xr,(Nd.mNode (v,xsj) sj).1=xr:=⟨_,rfl⟩
     obtain ⟨s2,hs2⟩:∃ s2,(Nd.mNode (v,xsj) sj).2=s2:=⟨_,rfl⟩
     simp only [hxr,hs2] at TO;have hse:s2.ends=sj.ends ∧ s2.known=sj.known:=by
      rw [← hs2];unfold Nd.mNode
      split
      · exact ⟨rfl,rfl⟩
      · split <;> exact ⟨rfl,rfl⟩
     have few:=HTJ.out.ok.few;rw [HN4.out] at few;have bxr : -9223372036854775808 ≤ xr ∧ xr ≤ 9223372036854775807:=by
      have h1:=TO.lo;have h2:=TO.hi;have h3:=TO.ok.few;rw [HN4.out] at h3;simp only at h1 h2 h3;omega
     rw [Nat.sub_self,List.replicate_zero,List.append_nil] at KJ;have HXR:=Lib.hid hxr;have HS2:=Lib.hid hs2;have HSE:=Lib.hid hse;have HFEW:=Lib.hid few;have HBX:=Lib.hid bxr
     have MN:=Lib.hid (fun W (hN:CnSt wb W c i L d sj pe' ce' pn' cn' Kj) (hR:WordsAt W g xsj)=>(by
      have:=mkNode_any (c:=v) hN.sm (hR.sl (by rw [HXL.out];omega)) ⟨Nat.le_trans HEW.out KJ.out.new.2.1,hR.lt⟩ (KJ.out.far g (.inr rfl)).2.2.1 (by rw [HXL.out];omega) (by rw [HXL.out];omega) (keyQ_ok (by rw [HXL.out];exact hq12) HQV.out (fun x hx=>by have:=HTJ.out.xs x hx;have:=HFEW.out;omega)) (fun y hy e=>keyQ_inj (fun e1=>by
       obtain ⟨q',hq',h1,h2⟩:=(HTJ.out.ok.ns y hy).1;have:=HONE.out q' hq' (by rw [← h1,e1]);rw [HN.out] at this;simp only at e1 ⊢;rw [HXL.out];omega) e) (by have:=HFEW.out;omega)
      rw [HXL.out,HXR.out,HS2.out] at this;exact this:Calls Tryz.prog 199 #[.pointer (some ⟨i.gm,0,none⟩),.int .i64 v,.slice (some ⟨g,0,none⟩) j j] W fun e w'=>e = .returned (.int .i64 xr) ∧ ∃ (pe'':Option Addr) (ce'':Nat) (pn'':Option Addr) (cn'':Nat) (K'':List (Nat × Nat)),MkSt wb w' i sj.ends s2.nodes pe'' ce'' pn'' cn'' K'' ∧ But (i.dyn pe' pn') W w' ∧ (∀ b ∈ i.dyn pe'' pn'',b ∈ i.dyn pe' pn' ∨ W.heap.size ≤ b) ∧ (∀ b ∈ K''.map Prod.fst,b ∈ Kj.map Prod.fst ∨ b=g)))
     have k1:=NJ.out.k;have m1:=NJ.out.m;have b0:=KJ.out.b0;clear RJ2 TO hxr hs2 hse few bxr;go_upto_region 13 with fail
     refine wp_region_seq (S:=fun W=>W.cell? ⟨c.kb,0,none⟩=some (.map (some c.gk)) ∧ W.cell? ⟨c.mb,0,none⟩=some (.pointer (some ⟨i.gm,0,none⟩)) ∧ W.cell? ⟨bb,0,none⟩=some (.int .i64 v)) (R:=Eq) (by kernel_rfl) (fun _=>rfl) ?_ ?_
     · exact ⟨k1,m1,b0⟩
     refine' wpAnyR_take (i:=0) (v:=?v0_1539) (fun _=>rfl) (fun _ _ _ h k=>h.trans k) rfl (by kernel_rfl) (by kernel_rfl) (by kernel_rfl) (fun _ _ _ h=>h) (Or.inl (Or.inl ⟨by rfl, ?hy0_1539⟩)) ?rest0_1539
     case hy0_1539=>(intro w hSw;(obtain ⟨s1,s2',s3⟩:=hSw);go_simp;try with_reducible rfl)
     refine layy ?_;refine' wpAnyR_take (i:=1) (v:=?v1_1540) (fun _=>rfl) (fun _ _ _ h k=>h.trans k) rfl (by kernel_rfl) (by kernel_rfl) (by kernel_rfl) (fun _ _ _ h=>h) (Or.inl (Or.inl ⟨by rfl, ?hy1_1540⟩)) ?rest1_1540
     case hy1_1540=>(intro w hSw;(obtain ⟨s1,s2',s3⟩:=hSw);go_simp;try with_reducible rfl)
     refine layy ?_;refine' wpAnyR_take (i:=2) (v:=?v2_1541) (fun _=>rfl) (fun _ _ _ h k=>h.trans k) rfl (by kernel_rfl) (by kernel_rfl) (by kernel_rfl) (fun _ _ _ h=>h) (Or.inl (Or.inl ⟨by rfl, ?hy2_1541⟩)) ?rest2_1541
     case hy2_1541=>(intro w hSw;(obtain ⟨s1,s2',s3⟩:=hSw);go_simp;try with_reducible rfl)
     refine layy ?_;refine' wpAnyR_take (i:=3) (v:=?v3_1542) (fun _=>rfl) (fun _ _ _ h k=>h.trans k) rfl (by kernel_rfl) (by kernel_rfl) (by kernel_rfl) (fun _ _ _ h=>h) (Or.inl (Or.inl ⟨by rfl, ?hy3_1542⟩)) ?rest3_1542
     case hy3_1542=>(intro w hSw;(obtain ⟨s1,s2',s3⟩:=hSw);go_simp;try with_reducible rfl)
     refine layy ?_;refine' wpAnyR_take (i:=4) (v:=?v4_1543) (fun _=>rfl) (fun _ _ _ h k=>h.trans k) rfl (by kernel_rfl) (by kernel_rfl) (by kernel_rfl) (fun _ _ _ h=>h) (Or.inl (Or.inl ⟨by rfl, ?hy4_1543⟩)) ?rest4_1543
     case hy4_1543=>(intro w hSw;(obtain ⟨s1,s2',s3⟩:=hSw);go_simp;try with_reducible rfl)
     refine layy ?_;refine' wpAnyR_take (i:=5) (v:=?v5_1544) (fun _=>rfl) (fun _ _ _ h k=>h.trans k) rfl (by kernel_rfl) (by kernel_rfl) (by kernel_rfl) (fun _ _ _ h=>h) (Or.inl (Or.inl ⟨by rfl, ?hy5_1544⟩)) ?rest5_1544
     case hy5_1544=>(intro w hSw;(obtain ⟨s1,s2',s3⟩:=hSw);go_simp;try with_reducible rfl)
     refine layy ?_;refine wpAnyE_call 6 (f:=199) (args:=#[.pointer (some ⟨i.gm,0,none⟩),.int .i64 v,.slice (some ⟨g,0,none⟩) j j]) rfl (by kernel_rfl) (by rfl) ?run6 ?call6
     case run6=>go_simp
     have ND:=Lib.hid (NJ.out.ext' (Ext.drew (Ext.refl wr)));have KD:=Lib.hid (KJ.out.ext (Ext.drew (Ext.refl wr)));refine (MN.out wr.drew ND.out KD.out.row).mono ?_;rintro e w8 ⟨rfl,pe8,ce8,pn8,cn8,K8,hM,hB,hD,hK⟩;have N8:=Lib.hid (ND.out.made hM hB hD (fun b hb=>(hK b hb).imp id (fun e=>by rw [e];exact ⟨(KD.out.far g (.inr rfl)).1,(KD.out.far g (.inr rfl)).2.1⟩)));have b8:=(hB.cell (cell_lt KD.out.b0) (KD.out.far bb (.inl rfl)).2.2.1 0).trans KD.out.b0;have hB:=Lib.hid hB;have hD:=Lib.hid hD;have hK:=Lib.hid hK;refine ⟨.int .i64 xr,rfl,⟨N8.out.k,N8.out.m,b8⟩, ?_⟩;clear hM MN k1 m1 b0;refine layy ?_;obtain ⟨w9,hup,hm9,ht9⟩:=N8.out.map.put (t:=119) Tryz.underlying3 Tryz.underlying119 (by have:=HFEW.out;unfold maxLen;simp only;omega) (a:=a) (x:=xr) (by omega) HBX.out.1 HBX.out.2;have B9:But [c.gk] w8 w9:=(But.refl _ _).turned ht9 (.inl (by simp));have N9:=Lib.hid (N8.out.known_ B9 hm9);have b9:=(B9.cell (cell_lt b8) (by simpa using (KD.out.far bb (.inl rfl)).2.1) 0).trans b8;have hlk:=N9.out.map.look (t:=119) Tryz.underlying3 Tryz.underlying119 (Tryz.zeroValue3 w9) (k:=a) (by omega);rw [getI_put N8.out.map.up,if_pos rfl] at hlk;simp only [Option.getD_some] at hlk;have k8:=N8.out.k;refine wpAnyE_put 7 (w':=w9) rfl (by kernel_rfl) (by rfl) ?run7 ?s7 ?next7
     case run7=>go_simp
     case s7=>exact ⟨N9.out.k,N9.out.m,b9⟩
     case next7=>
     have HB9:=Lib.hid B9;have k9:=N9.out.k;clear hup hm9 ht9 B9 k8 b8 b9;refine layy ?_;refine wpAnyR_done (by kernel_rfl) ?_ _;intro w10 e10 _;subst e10
     go_wp2_with fail
     go_returns;have NE:=N9.out;rw [← HSE.out.1,← HSE.out.2] at NE;unfold CnPost;rw [HRJ2.out];simp only [HXR.out,HS2.out];refine ⟨rfl,pe8,ce8,pn8,cn8,K8,NE, ?_,fun b hb=>?_,fun b hb=>?_⟩
     · have h1:But (c.gk :: i.dyn pe pn) w wr.drew:=KJ.out.but.ext (Ext.drew (Ext.refl wr));exact (h1.over hB.out fun x hx=>by
        rcases KJ.out.dyn x hx with h | h
        · exact .inl (List.mem_cons_of_mem _ h)
        · exact .inr h).trans (HB9.out.mono fun x hx=>by rw [List.mem_singleton.1 hx];simp)
     · rcases hD.out b hb with h | h
       · exact KJ.out.dyn b h
       · exact .inr (Nat.le_trans (Nat.le_trans KJ.out.but.size (Nat.le_refl _)) h)
     · rcases hK.out b hb with h | h
       · exact KJ.out.kk b h
       · exact .inr (by rw [h];exact KJ.out.new.2.1)
end Go.Proofs.YtdokmmhjmclmnaaGreat
