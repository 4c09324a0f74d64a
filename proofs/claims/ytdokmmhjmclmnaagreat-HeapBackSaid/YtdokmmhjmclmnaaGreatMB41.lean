/-
  Part 41 of a proof: CP2 CP3 CP4 HB1.
-/
import Derived.Test.YtdokmmhjmclmnaaGreatMB10
import Derived.Test.YtdokmmhjmclmnaaGreatMB20
import Derived.Test.YtdokmmhjmclmnaaGreatMB25
import Derived.Test.YtdokmmhjmclmnaaGreatMB27
import Derived.Test.YtdokmmhjmclmnaaGreatMB31
import Derived.Test.YtdokmmhjmclmnaaGreatMB40
set_option linter.unusedSimpArgs false
set_option linter.unusedVariables false
set_option linter.unusedSectionVars false
set_option linter.unnecessarySimpa false
namespace Go.Proofs.YtdokmmhjmclmnaaGreat
open Go.RowKit Go.Maps
def Box5At (W:World) (v:Value) (q:Bool) (c0 c1 c2 c4:Value):Prop:=∃ (g:Nat) (d0 d1 d2 d3 d4:Value),v = .pointer (some ⟨g,0,none⟩) ∧ Own5 W g d0 d1 d2 d3 d4 ∧ (q=true → d0=c0 ∧ d1=c1 ∧ d2=c2 ∧ d3 = .slice none 0 0 ∧ d4=c4)
theorem Box5At.ext {W W':World} {v c0 c1 c2 c4:Value} {q:Bool} (h:Box5At W v q c0 c1 c2 c4) (k:Ext W W'):Box5At W' v q c0 c1 c2 c4:=by
 obtain ⟨g,d0,d1,d2,d3,d4,e,h1,h2⟩:=h
 exact ⟨g,d0,d1,d2,d3,d4,e,h1.ext k,h2⟩
theorem Box5At.lt {W:World} {v c0 c1 c2 c4:Value} {q:Bool} (h:Box5At W v q c0 c1 c2 c4):∀ b ∈ vb2 v,b < W.heap.size:=fun b hb=>by
 obtain ⟨g,d0,d1,d2,d3,d4,rfl,h1,_⟩:=h
 rw [List.mem_singleton.1 hb]
 exact cell_lt h1.a0
def FreshV (w0 W:World) (v:Value):Prop:=∀ b ∈ vb2 v,w0.heap.size ≤ b ∧ b < W.heap.size
structure CpK (w0:World) (z o:List Int) (E:List (Int × Int)) (rt:Value) (L:Nat → Bool) (W:World) (v1 v2 v3 v4 v5:Value):Prop where
 ext:Ext w0 W
 sz:L 2=true → (∃ p c,v1 = .slice p z.length c ∧ SliceAt W p c z) ∧ FreshV w0 W v1
 so:L 5=true → (∃ p c,v2 = .slice p o.length c ∧ SliceAt W p c o ∧ (0 < o.length ∨ p=none)) ∧ FreshV w0 W v2
 se:L 8=true → (∃ p c,v3 = .slice p E.length c ∧ RdN W 2 p c (E.map endC)) ∧ FreshV w0 W v3
 b:L 11=true → L 2=true ∧ L 5=true ∧ L 8=true ∧ v4 = .agg #[v1,v2,v3,.slice none 0 0,rt]
 x:L 12=true → Box5At W v5 (L 13) v1 v2 v3 rt ∧ ∀ b ∈ vb2 v5,w0.heap.size ≤ b
 zx:L 2=true → L 12=true → ∀ b ∈ vb2 v1,b ∉ vb2 v5
 ox:L 5=true → L 12=true → ∀ b ∈ vb2 v2,b ∉ vb2 v5
 ex:L 8=true → L 12=true → ∀ b ∈ vb2 v3,b ∉ vb2 v5
 p:L 13=true → L 11=true ∧ L 12=true
namespace CpK
variable {w0 W W':World} {z o:List Int} {E:List (Int × Int)} {L:Nat → Bool} {rt v1 v2 v3 v4 v5 v:Value}
theorem no {p:Prop} {a:Bool} (h0:a=false) (h:a=true):p:=by rw [h0] at h;cases h
theorem fr {w0 W W':World} {v:Value} (h:FreshV w0 W v) (y:Ext W W'):FreshV w0 W' v:=fun b hb=>⟨(h b hb).1,Nat.lt_of_lt_of_le (h b hb).2 y.le⟩
theorem sz' (k:CpK w0 z o E rt L W v1 v2 v3 v4 v5) (y:Ext W W') (h:L 2=true):(∃ p c,v1 = .slice p z.length c ∧ SliceAt W' p c z) ∧ FreshV w0 W' v1:=by
 obtain ⟨⟨p,c,e,h1⟩,h2⟩:=k.sz h
 exact ⟨⟨p,c,e,h1.ext y⟩,fr h2 y⟩
theorem so' (k:CpK w0 z o E rt L W v1 v2 v3 v4 v5) (y:Ext W W') (h:L 5=true):(∃ p c,v2 = .slice p o.length c ∧ SliceAt W' p c o ∧ (0 < o.length ∨ p=none)) ∧ FreshV w0 W' v2:=by
 obtain ⟨⟨p,c,e,h1,h3⟩,h2⟩:=k.so h
 exact ⟨⟨p,c,e,h1.ext y,h3⟩,fr h2 y⟩
theorem se' (k:CpK w0 z o E rt L W v1 v2 v3 v4 v5) (y:Ext W W') (h:L 8=true):(∃ p c,v3 = .slice p E.length c ∧ RdN W' 2 p c (E.map endC)) ∧ FreshV w0 W' v3:=by
 obtain ⟨⟨p,c,e,h1⟩,h2⟩:=k.se h
 exact ⟨⟨p,c,e,h1.ext y⟩,fr h2 y⟩
theorem x' (k:CpK w0 z o E rt L W v1 v2 v3 v4 v5) (y:Ext W W') (h:L 12=true):Box5At W' v5 (L 13) v1 v2 v3 rt ∧ ∀ b ∈ vb2 v5,w0.heap.size ≤ b:=⟨(k.x h).1.ext y,(k.x h).2⟩
theorem new (h:∀ b ∈ vb2 v,W.heap.size ≤ b ∧ b < W'.heap.size) (k:CpK w0 z o E rt L W v1 v2 v3 v4 v5) (h12:L 12=true):∀ b ∈ vb2 v,b ∉ vb2 v5:=fun b hb hm=>by
 have:=(k.x h12).1.lt b hm
 have:=(h b hb).1
 omega
theorem late (k:CpK w0 z o E rt L W v1 v2 v3 v4 v5) (h13:L 13=true) {P:Prop} (h:L 2=false ∨ L 5=false ∨ L 8=false ∨ L 12=false):P:=by
 obtain ⟨h1,h2⟩:=k.p h13
 obtain ⟨h3,h4,h5,_⟩:=k.b h1
 rcases h with h | h | h | h
 · exact no h h3
 · exact no h h4
 · exact no h h5
 · exact no h h2
theorem box' (k:CpK w0 z o E rt L W v1 v2 v3 v4 v5) (y:Ext W W') (h:L 12=true) (hn:L 2=false ∨ L 5=false ∨ L 8=false ∨ L 12=false) {u1 u2 u3:Value}:Box5At W' v5 (L 13) u1 u2 u3 rt ∧ ∀ b ∈ vb2 v5,w0.heap.size ≤ b:=by
 obtain ⟨⟨g,d0,d1,d2,d3,d4,e,h1,_⟩,h3⟩:=k.x' y h
 exact ⟨⟨g,d0,d1,d2,d3,d4,e,h1,fun h13=>k.late h13 hn⟩,h3⟩
theorem frn {v:Value} (k:CpK w0 z o E rt L W v1 v2 v3 v4 v5) (h:∀ b ∈ vb2 v,W.heap.size ≤ b ∧ b < W'.heap.size):FreshV w0 W' v:=fun b hb=>⟨Nat.le_trans k.ext.le (h b hb).1,(h b hb).2⟩
theorem step2 (k:CpK w0 z o E rt L W v1 v2 v3 v4 v5) (hL:L 2=false) (y:Ext W W') {p:Option Addr} {c:Nat} (hs:SliceAt W' p c z) (hb:∀ b ∈ vb2 (.slice p z.length c),W.heap.size ≤ b ∧ b < W'.heap.size):CpK w0 z o E rt (also L 2) W' (.slice p z.length c) v2 v3 v4 v5:=
 ⟨k.ext.trans y,fun _=>⟨⟨p,c,rfl,hs⟩,k.frn hb⟩,k.so' y,k.se' y,fun h=>no hL (k.b h).1,fun h=>k.box' y h (.inl hL),fun _ h=>new hb k h,k.ox,k.ex,k.p⟩
theorem step5 (k:CpK w0 z o E rt L W v1 v2 v3 v4 v5) (hL:L 5=false) (y:Ext W W') {p:Option Addr} {c:Nat} (hs:SliceAt W' p c o) (ho:0 < o.length ∨ p=none) (hb:∀ b ∈ vb2 (.slice p o.length c),W.heap.size ≤ b ∧ b < W'.heap.size):CpK w0 z o E rt (also L 5) W' v1 (.slice p o.length c) v3 v4 v5:=
 ⟨k.ext.trans y,k.sz' y,fun _=>⟨⟨p,c,rfl,hs,ho⟩,k.frn hb⟩,k.se' y,fun h=>no hL (k.b h).2.1,fun h=>k.box' y h (.inr (.inl hL)),k.zx,fun _ h=>new hb k h,k.ex,k.p⟩
theorem step8 (k:CpK w0 z o E rt L W v1 v2 v3 v4 v5) (hL:L 8=false) (y:Ext W W') {p:Option Addr} {c:Nat} (hs:RdN W' 2 p c (E.map endC)) (hb:∀ b ∈ vb2 (.slice p E.length c),W.heap.size ≤ b ∧ b < W'.heap.size):CpK w0 z o E rt (also L 8) W' v1 v2 (.slice p E.length c) v4 v5:=
 ⟨k.ext.trans y,k.sz' y,k.so' y,fun _=>⟨⟨p,c,rfl,hs⟩,k.frn hb⟩,fun h=>no hL (k.b h).2.2.1,fun h=>k.box' y h (.inr (.inr (.inl hL))),k.zx,k.ox,fun _ h=>new hb k h,k.p⟩
theorem step11 (k:CpK w0 z o E rt L W v1 v2 v3 v4 v5) (hL:L 11=false) (h2:L 2=true) (h5:L 5=true) (h8:L 8=true):CpK w0 z o E rt (also L 11) W v1 v2 v3 (.agg #[v1,v2,v3,.slice none 0 0,rt]) v5:=
 ⟨k.ext,k.sz,k.so,k.se,fun _=>⟨h2,h5,h8,rfl⟩,k.x,k.zx,k.ox,k.ex,fun h=>no hL (k.p h).1⟩
theorem step12 (k:CpK w0 z o E rt L W v1 v2 v3 v4 v5) (hL:L 12=false) (t:TypeId):CpK w0 z o E rt (also L 12) (W.alloc (.cells #[.slice none 0 0,.slice none 0 0,.slice none 0 0,.slice none 0 0,.int .i64 0] t)) v1 v2 v3 v4 (.pointer (some ⟨W.heap.size,0,none⟩)):=by
 have y:Ext W (W.alloc (.cells #[.slice none 0 0,.slice none 0 0,.slice none 0 0,.slice none 0 0,.int .i64 0] t)):=Ext.alloc (Ext.refl W) _
 refine ⟨k.ext.trans y,k.sz' y,k.so' y,k.se' y,k.b,fun _=>⟨⟨W.heap.size,.slice none 0 0,.slice none 0 0,.slice none 0 0,.slice none 0 0,.int .i64 0,rfl,⟨by go_simp,by go_simp,by go_simp,by go_simp,by go_simp,fun o=>by go_simp⟩,fun h=>k.late h (.inr (.inr (.inr hL)))⟩,fun b hb=>by rw [List.mem_singleton.1 hb];exact k.ext.le⟩,fun h _ b hb hm=>?_,fun h _ b hb hm=>?_,fun h _ b hb hm=>?_,fun h=>no hL (k.p h).2⟩
 · have:=((k.sz h).2 b hb).2;rw [List.mem_singleton.1 hm] at this;simp at this
 · have:=((k.so h).2 b hb).2;rw [List.mem_singleton.1 hm] at this;simp at this
 · have:=((k.se h).2 b hb).2;rw [List.mem_singleton.1 hm] at this;simp at this
theorem step13 {g:Nat} (k:CpK w0 z o E rt L W v1 v2 v3 v4 (.pointer (some ⟨g,0,none⟩))) (h11:L 11=true) (h12:L 12=true):CpK w0 z o E rt (also L 13) (((((W.setCell ⟨g,0,none⟩ v1).setCell ⟨g,1,none⟩ v2).setCell ⟨g,2,none⟩ v3).setCell ⟨g,3,none⟩ (.slice none 0 0)).setCell ⟨g,4,none⟩ rt) v1 v2 v3 v4 (.pointer (some ⟨g,0,none⟩)) ∧ Ext w0 (((((W.setCell ⟨g,0,none⟩ v1).setCell ⟨g,1,none⟩ v2).setCell ⟨g,2,none⟩ v3).setCell ⟨g,3,none⟩ (.slice none 0 0)).setCell ⟨g,4,none⟩ rt):=by
 obtain ⟨h2,h5,h8,_⟩:=k.b h11
 have y:But [g] W (((((W.setCell ⟨g,0,none⟩ v1).setCell ⟨g,1,none⟩ v2).setCell ⟨g,2,none⟩ v3).setCell ⟨g,3,none⟩ (.slice none 0 0)).setCell ⟨g,4,none⟩ rt):=(((((But.refl _ _).setCell (.inl (by simp)) _).setCell (.inl (by simp)) _).setCell (.inl (by simp)) _).setCell (.inl (by simp)) _).setCell (.inl (by simp)) _
 have hg:=(k.x h12).2 g (by simp [vb2])
 have EX:=y.toExt k.ext fun b hb=>by rw [List.mem_singleton.1 hb];exact hg
 have nb:∀ {p:Option Addr} {n c:Nat},(∀ b ∈ vb2 (.slice p n c),b ∉ vb2 (.pointer (some ⟨g,0,none⟩))) → ∀ b o,p=some ⟨b,o,none⟩ → b ∉ [g]:=fun h b o e hm=>h b (by subst e;simp [vb2,blk]) (by rw [List.mem_singleton.1 hm];simp [vb2])
 refine ⟨⟨EX,fun h=>?_,fun h=>?_,fun h=>?_,k.b,fun h=>?_,k.zx,k.ox,k.ex,fun _=>⟨h11,h12⟩⟩,EX⟩
 · have z:=k.zx h2 h12;obtain ⟨⟨p,c,rfl,h1⟩,h3⟩:=k.sz h;exact ⟨⟨p,c,rfl,h1.but y (nb z)⟩,fun b hb=>⟨(h3 b hb).1,Nat.lt_of_lt_of_le (h3 b hb).2 y.size⟩⟩
 · have z:=k.ox h5 h12;obtain ⟨⟨p,c,rfl,h1,h4⟩,h3⟩:=k.so h;exact ⟨⟨p,c,rfl,h1.but y (nb z),h4⟩,fun b hb=>⟨(h3 b hb).1,Nat.lt_of_lt_of_le (h3 b hb).2 y.size⟩⟩
 · have z:=k.ex h8 h12;obtain ⟨⟨p,c,rfl,h1⟩,h3⟩:=k.se h;exact ⟨⟨p,c,rfl,h1.but y (nb z)⟩,fun b hb=>⟨(h3 b hb).1,Nat.lt_of_lt_of_le (h3 b hb).2 y.size⟩⟩
 · obtain ⟨⟨g',d0,d1,d2,d3,d4,e,h1,_⟩,h3⟩:=k.x h12
   cases e
   exact ⟨⟨g,_,_,_,_,_,rfl,h1.set,fun _=>⟨rfl,rfl,rfl,rfl,rfl⟩⟩,h3⟩
end CpK
open Go.RowKit Go.Maps
def kblk (K:List (Option Addr × Nat)):List Nat:=K.flatMap fun k=>blk k.1
structure CpSt (w wr:World) (d:Nd.Dia) (gO:Nat) (p2:Option Addr) (c2:Nat) (p3:Option Addr) (c3:Nat) (pe:Option Addr) (ce:Nat) (j:Nat) (pn:Option Addr) (cn:Nat) (K:List (Option Addr × Nat)):Prop where
 ext:Ext w wr
 o5:Own5 wr gO (.slice p2 d.sizes.length c2) (.slice p3 d.order.length c3) (.slice pe d.ends.length ce) (.slice pn j cn) (.int .i64 d.root)
 s2:SliceAt wr p2 c2 d.sizes
 s3:SliceAt wr p3 c3 d.order
 er:RdN wr 2 pe ce (d.ends.map endC)
 nr:RowN wr 2 41 pn cn (List.zipWith nodeC (d.nodes.take j) K)
 kl:K.length=j
 jl:j ≤ d.nodes.length
 ks:∀ (i:Nat) (q:Int × List Int) (k:Option Addr × Nat),(d.nodes.take j)[i]? = some q → K[i]? = some k → SliceAt wr k.1 k.2 q.2
 lo:∀ b,b=gO ∨ b ∈ blk p2 ∨ b ∈ blk p3 ∨ b ∈ blk pe ∨ b ∈ blk pn ∨ b ∈ kblk K → w.heap.size ≤ b ∧ b < wr.heap.size
 ng:gO ∉ blk p2 ∧ gO ∉ blk p3 ∧ gO ∉ blk pe ∧ gO ∉ blk pn ∧ gO ∉ kblk K
 np:∀ b ∈ blk pn,b ∉ blk p2 ∧ b ∉ blk p3 ∧ b ∉ blk pe ∧ b ∉ kblk K
namespace CpSt
variable {w wr w':World} {d:Nd.Dia} {gO:Nat} {p2 p3 pe pn:Option Addr} {c2 c3 ce cn j:Nat} {K:List (Option Addr × Nat)}
theorem ext' (h:CpSt w wr d gO p2 c2 p3 c3 pe ce j pn cn K) (k:Ext wr w'):CpSt w w' d gO p2 c2 p3 c3 pe ce j pn cn K:=
 { h with
   ext:=h.ext.trans k
   o5:=h.o5.ext k
   s2:=h.s2.ext k
   s3:=h.s3.ext k
   er:=h.er.ext k
   nr:=h.nr.ext k
   ks:=fun i q kk hq hk=>(h.ks i q kk hq hk).ext k
   lo:=fun b hb=>⟨(h.lo b hb).1,Nat.lt_of_lt_of_le (h.lo b hb).2 k.le⟩ }
theorem mem_k {i:Nat} {k:Option Addr × Nat} {b o:Nat} (hk:K[i]? = some k) (e:k.1=some ⟨b,o,none⟩):b ∈ kblk K:=List.mem_flatMap.2 ⟨k,List.mem_of_getElem? hk,mem_blk e⟩
theorem set3 {W:World} {g:Nat} {c0 c1 c2 c3 c4 d3:Value} (h:Own5 W g c0 c1 c2 c3 c4):Own5 (W.setCell ⟨g,3,none⟩ d3) g c0 c1 c2 d3 c4:=by
 obtain ⟨a0,a1,a2,a3,a4,z⟩:=h
 exact ⟨by simp [go_sem,a0],by simp [go_sem,a1],by simp [go_sem,a2],by simp [go_sem,a3],by simp [go_sem,a4],fun o=>by simp [go_sem,z]⟩
theorem grow (h:CpSt w wr d gO p2 c2 p3 c3 pe ce j pn cn K) {w1 w2:World} (e1:Ext wr w1) {p0:Option Addr} {c0 g cap:Nat} {row:Option Nat} {q:Int × List Int} (hq:d.nodes[j]? = some q) (hs:SliceAt w1 p0 c0 q.2) (hf:∀ b ∈ blk p0,wr.heap.size ≤ b ∧ b < w1.heap.size)
    (hR:RowN w2 2 41 (some ⟨g,0,none⟩) cap (List.zipWith nodeC (d.nodes.take j) K ++ [nodeC q (p0,c0)])) (hG:w1.grownBy w2 row) (hrow:∀ r,row=some r → pn=some ⟨r,0,none⟩) (hg:pn=some ⟨g,0,none⟩ ∨ g=w1.heap.size) (hlt:g < w2.heap.size) :
    CpSt w (w2.setCell ⟨gO,3,none⟩ (.slice (some ⟨g,0,none⟩) (j+1) cap)) d gO p2 c2 p3 c3 pe ce (j+1) (some ⟨g,0,none⟩) cap (K ++ [(p0,c0)]):=by
  have H1:=h.ext' e1;have k2:But (blk pn) w1 w2:=⟨hG.os,hG.tape,hG.output,hG.size,fun i hi hn=>hG.block i hi fun e=>hn (by rw [hrow i e.symm];simp [blk])⟩
  have k3:But [gO] w2 (w2.setCell ⟨gO,3,none⟩ (.slice (some ⟨g,0,none⟩) (j+1) cap)):=(But.refl _ _).setCell (.inl (by simp)) _;have kb:But (gO :: blk pn) w1 (w2.setCell ⟨gO,3,none⟩ (.slice (some ⟨g,0,none⟩) (j+1) cap)):=(k2.mono (l':=gO :: blk pn) (fun x hx=>by simp [hx])).trans (k3.mono (l':=gO :: blk pn) (fun x hx=>by rw [List.mem_singleton.1 hx];simp));have sz:w2.heap.size=(w2.setCell ⟨gO,3,none⟩ (.slice (some ⟨g,0,none⟩) (j+1) cap)).heap.size:=by simp [World.setCell]
  have s1:=e1.le;have s2:=k2.size;have s0:=h.ext.le;have gblk:∀ b ∈ blk (some (⟨g,0,none⟩:Addr)),b=g:=fun b hb=>by simpa [blk] using hb
  have gI:g ∈ blk pn ∨ wr.heap.size ≤ g:=hg.imp (fun e=>by rw [e];simp [blk]) (fun e=>by omega);have hl:=(List.getElem?_eq_some_iff.1 hq).1;have ht:d.nodes.take (j+1)=d.nodes.take j ++ [q]:=by rw [List.take_add_one,hq];rfl
  have kk:kblk (K ++ [(p0,c0)])=kblk K ++ blk p0:=by simp [kblk]
  have nl:∀ b,b ≠ gO → b ∉ blk pn → b ∉ gO :: blk pn:=fun b h1 h2 hm=>by
   rcases List.mem_cons.1 hm with e | e
   · exact h1 e
   · exact h2 e
  have gne:∀ b,b < wr.heap.size → b ∉ blk pn → b ≠ g:=fun b h1 h2 e=>by
   subst e
   rcases gI with h | h
   · exact h2 h
   · omega
  have gOl:=(h.lo gO (.inl rfl)).2;have pf:∀ b ∈ blk p0,b ≠ gO ∧ b ∉ blk pn ∧ b ≠ g:=fun b hb=>by
   have h1:=hf b hb;refine ⟨by omega,fun hm=>by have:=(h.lo b (.inr (.inr (.inr (.inr (.inl hm)))))).2;omega,fun e=>?_⟩
   rcases hg with h2 | h2
   · have:=(h.lo g (.inr (.inr (.inr (.inr (.inl (by rw [h2];simp [blk]))))))).2;omega
   · omega
  obtain ⟨n1,n2,n3,n4,n5⟩:=h.ng
  exact
   { ext:=kb.toExt H1.ext fun b hb=>by
       rcases List.mem_cons.1 hb with rfl | hb
       · exact (h.lo _ (.inl rfl)).1
       · exact (h.lo b (.inr (.inr (.inr (.inr (.inl hb)))))).1
     o5:=set3 (H1.o5.but k2 n4)
     s2:=H1.s2.but kb fun b o e=>nl b (fun e'=>n1 (by rw [← e'];exact mem_blk e)) (fun hm=>(h.np b hm).1 (mem_blk e))
     s3:=H1.s3.but kb fun b o e=>nl b (fun e'=>n2 (by rw [← e'];exact mem_blk e)) (fun hm=>(h.np b hm).2.1 (mem_blk e))
     er:=H1.er.but kb fun b o e=>nl b (fun e'=>n3 (by rw [← e'];exact mem_blk e)) (fun hm=>(h.np b hm).2.2.1 (mem_blk e))
     nr:=by
      rw [ht,List.zipWith_append (by rw [List.length_take,h.kl];omega)];exact hR.but k3 fun b o e hm=>by
       cases e
       exact gne _ gOl n4 (List.mem_singleton.1 hm).symm
     kl:=by simp [h.kl]
     jl:=hl
     ks:=fun i q' k hq' hk=>by
      rw [ht] at hq'
      by_cases hi:i < j
      · rw [List.getElem?_append_left (by rw [List.length_take];omega)] at hq';rw [List.getElem?_append_left (by rw [h.kl];exact hi)] at hk;exact (H1.ks i q' k hq' hk).but kb fun b o e=>nl b (fun e'=>n5 (by rw [← e'];exact mem_k hk e)) (fun hm=>(h.np b hm).2.2.2 (mem_k hk e))
      · have hil:=(List.getElem?_eq_some_iff.1 hk).1;simp [h.kl] at hil;have:i=j:=by omega
        subst this;rw [List.getElem?_append_right (by rw [List.length_take];omega),List.length_take,Nat.min_eq_left (by omega),Nat.sub_self] at hq';rw [List.getElem?_append_right (by rw [h.kl];exact Nat.le_refl _),h.kl,Nat.sub_self] at hk
        cases hq'
        cases hk
        exact hs.but kb fun b o e=>nl b (pf b (mem_blk e)).1 (pf b (mem_blk e)).2.1
     lo:=fun b hb=>by
      rw [← sz];have old:b=gO ∨ b ∈ blk p2 ∨ b ∈ blk p3 ∨ b ∈ blk pe ∨ b ∈ blk pn ∨ b ∈ kblk K → w.heap.size ≤ b ∧ b < w2.heap.size:=fun hb=>by have:=h.lo b hb;omega
      rw [kk] at hb
      rcases hb with hb | hb | hb | hb | hb | hb
      · exact old (.inl hb)
      · exact old (.inr (.inl hb))
      · exact old (.inr (.inr (.inl hb)))
      · exact old (.inr (.inr (.inr (.inl hb))))
      · have:=gblk b hb;subst this
        rcases gI with h' | h'
        · exact old (.inr (.inr (.inr (.inr (.inl h')))))
        · omega
      · rcases List.mem_append.1 hb with hb | hb
        · exact old (.inr (.inr (.inr (.inr (.inr hb)))))
        · have:=hf b hb;omega
     ng:=by
      rw [kk];refine ⟨n1,n2,n3,fun hm=>gne _ gOl n4 (gblk _ hm),fun hm=>?_⟩
      rcases List.mem_append.1 hm with hm | hm
      · exact n5 hm
      · exact (pf _ hm).1 rfl
     np:=fun b hb=>by
      have:=gblk b hb;subst this;rw [kk];have key:∀ x,(x ∈ blk p2 ∨ x ∈ blk p3 ∨ x ∈ blk pe ∨ x ∈ kblk K) → x ≠ b:=fun x hx=>gne x (h.lo x (by rcases hx with hx | hx | hx | hx <;> simp [hx])).2 (fun hm=>by
       obtain ⟨a1,a2,a3,a4⟩:=h.np x hm
       rcases hx with hx | hx | hx | hx
       · exact a1 hx
       · exact a2 hx
       · exact a3 hx
       · exact a4 hx)
      refine ⟨fun hm=>key b (.inl hm) rfl,fun hm=>key b (.inr (.inl hm)) rfl,fun hm=>key b (.inr (.inr (.inl hm))) rfl,fun hm=>?_⟩
      rcases List.mem_append.1 hm with hm | hm
      · exact key b (.inr (.inr (.inr hm))) rfl
      · exact (pf b hm).2.2 rfl }
end CpSt
open Go.RowKit Go.Maps
section
variable {P:Program} {ops:Array Oper} {Q:Exit → Act → World → Prop}
theorem wpOp_call {i:Nat} {oi:Oper} {f:FuncId} {args:Array Value} {K:Act → World → Prop} {a:Act} {w:World} (hi:ops[i]? = some oi) (hw:Region.wanted oi (yielded ops a.tmps)=true)
    (hrun:(execOp a.eval oi).run P w = .ok (.enter f args) w) (hc:Calls P f args w fun e w'=>∃ v,e = .returned v ∧ K (a.put oi.dst v) w'):wpOp P ops Q i K a w:=by
  unfold wpOp;simp only [hi];rw [if_pos hw];refine .inl ?_;unfold Oper.wp;rw [hrun];refine hc.mono ?_;rintro e w'' ⟨v,rfl,hk⟩;exact hk
end
structure NilD (L:DgL):Prop where
 zs:L.ps=none → L.cs=0
 os:L.po=none → L.co=0
 es:L.pe=none → L.ce=0
 ks:∀ k ∈ L.K,k.1=none → k.2=0
def CopyPost (w:World) (d:Nd.Dia) (e:Ending) (w':World):Prop:=
 ∃ M:DgL,e = .returned (dgV M d.sizes.length d.order.length d.ends.length d.nodes.length d.root) ∧ DgRd w' M d.sizes d.order d.ends d.nodes ∧ Ext w w' ∧ (∀ b ∈ M.blocks,w.heap.size ≤ b ∧ b < w'.heap.size) ∧ (0 < d.order.length ∨ M.po=none)
theorem Row.frs {w w':World} {p:Option Addr} {c:Nat} {l:List Int} (h:Row w' w.heap.size p c l):∀ b ∈ blk p,w.heap.size ≤ b ∧ b < w'.heap.size:=fun b hb=>by
 obtain ⟨o,s,rfl⟩:=blk_inv hb
 cases s with
 | none=>exact ⟨h.far rfl,h.lt rfl⟩
 | some s=>
  rcases h.1.2 with ⟨e',_⟩ | ⟨g,cap,cur,e',h1,_⟩
  · injection e' with e1
    cases e1
  · injection e' with e1
    cases e1
set_option maxRecDepth 100000 in
set_option maxHeartbeats 16000000 in
theorem copy14 {w:World} {L:DgL} {d:Nd.Dia} (h:DgRd w L d.sizes d.order d.ends d.nodes) (hn:NilD L) (hz:d.sizes.length ≤ 1000000) (hol:d.order.length ≤ 1000000) (hel:d.ends.length ≤ 1000000) (hnl:d.nodes.length ≤ 1000000) (hkl:∀ q ∈ d.nodes,q.2.length ≤ 1000000) :
    Calls Tryz.prog 38 #[dgV L d.sizes.length d.order.length d.ends.length d.nodes.length d.root] w (CopyPost w d):=by
  have IZ:=Lib.hid (fun W (hE:Ext w W)=>ints14_any (h.s.ext hE) hn.zs hz);have IO:=Lib.hid (fun W (hE:Ext w W)=>ints14_any (h.o.ext hE) hn.os hol);have IE:=Lib.hid (fun W (hE:Ext w W)=>cells14_any (h.e.ext hE) hn.es hel);have H:=Lib.hid h;have HNK:=Lib.hid hn.ks;have HKL:=Lib.hid hkl;have l4:=h.n.le;have c4:=h.n.cap;rw [zip_nodeC_len h.kl] at l4;obtain ⟨n1,h1⟩:∃ n,d.sizes.length=n:=⟨_,rfl⟩
  obtain ⟨n2,h2⟩:∃ n,d.order.length=n:=⟨_,rfl⟩
  obtain ⟨n3,h3⟩:∃ n,d.ends.length=n:=⟨_,rfl⟩
  obtain ⟨n4,h4⟩:∃ n,d.nodes.length=n:=⟨_,rfl⟩
  obtain ⟨rt,h5⟩:∃ n,d.root=n:=⟨_,rfl⟩
  have HQ:=Lib.hid (show d.sizes.length=n1 ∧ d.order.length=n2 ∧ d.ends.length=n3 ∧ d.nodes.length=n4 ∧ d.root=rt from ⟨h1,h2,h3,h4,h5⟩);rw [h1] at IZ;rw [h2] at IO;rw [h3] at IE;rw [h1,h2,h3,h4,h5];rw [h4] at l4 hnl;clear h hn hz hol hel hkl h1 h2 h3 h4 h5;obtain ⟨ps,cs,po,co,pe,ce,pn,cn,K⟩:=L;unfold dgV DgL.cells;simp only at *;have mixed:Tryz.prog.follows .mixedOrders=true:=by kernel_rfl
  go_enter Tryz.func38,Tryz.ntmps38;go_upto_region 1 with fail
  refine cut_world (F:=fun W=>Hid (Ext w W) ∧ W.cell? ⟨w.heap.size,0,none⟩=some (.slice ps n1 cs) ∧ W.cell? ⟨w.heap.size,1,none⟩=some (.slice po n2 co) ∧ W.cell? ⟨w.heap.size,2,none⟩=some (.slice pe n3 ce) ∧ W.cell? ⟨w.heap.size,3,none⟩=some (.slice pn n4 cn) ∧ W.cell? ⟨w.heap.size,4,none⟩=some (.int .i64 rt) ∧ Hid (Own5 W (w.heap.size+1) (.slice none 0 0) (.slice none 0 0) (.slice none 0 0) (.slice none 0 0) (.int .i64 0))) ⟨Lib.hid (exx),by go_simp,by go_simp,by go_simp,by go_simp,by go_simp,Lib.hid ⟨by go_simp,by go_simp,by go_simp,by go_simp,by go_simp,fun o=>by go_simp⟩⟩ ?_;intro w1 ⟨E1,g0,g1,g2,g3,g4,OR⟩;generalize hgr:w.heap.size+1=gr at OR ⊢;have GR:=Lib.hid (show w.heap.size ≤ gr from by omega);clear hgr;generalize w.heap.size=gd at g0 g1 g2 g3 g4 ⊢;have zg:=cell_lt g0;have PR50:=Lib.hid (fun (ww:World) (hSw:Ext w1 ww)=>And.intro ((hSw.cell zg 0).trans g0) (And.intro ((hSw.cell zg 1).trans g1) (And.intro ((hSw.cell zg 2).trans g2) ((hSw.cell zg 4).trans g4))));refine wp_region_held_drew (S:=fun W=>Ext w1 W) (by kernel_rfl) ?_ (fun hS=>?_)
  · exact exx
  · skip
    refine' wpAnyH_take (i:=0) (v:=?v0_1) rfl (by kernel_rfl) (by kernel_rfl) (by kernel_rfl) (fun _ _ _ h=>h) (Or.inl ⟨by rfl, ?hy0_1⟩) (by assumption) ?rest0_1
    case hy0_1=>(intro w q;obtain ⟨g0',g1',g2',g4'⟩:=PR50.out w q;go_simp;try with_reducible rfl)
    refine layy ?_;refine' wpAnyH_take (i:=1) (v:=?v1_2) rfl (by kernel_rfl) (by kernel_rfl) (by kernel_rfl) (fun _ _ _ h=>h) (Or.inl ⟨by rfl, ?hy1_2⟩) (by assumption) ?rest1_2
    case hy1_2=>(intro w q;obtain ⟨g0',g1',g2',g4'⟩:=PR50.out w q;go_simp;try with_reducible rfl)
    refine layy ?_;refine' wpAnyH_take (i:=3) (v:=?v3_3) rfl (by kernel_rfl) (by kernel_rfl) (by kernel_rfl) (fun _ _ _ h=>h) (Or.inl ⟨by rfl, ?hy3_3⟩) (by assumption) ?rest3_3
    case hy3_3=>(intro w q;obtain ⟨g0',g1',g2',g4'⟩:=PR50.out w q;go_simp;try with_reducible rfl)
    refine layy ?_;refine' wpAnyH_take (i:=4) (v:=?v4_4) rfl (by kernel_rfl) (by kernel_rfl) (by kernel_rfl) (fun _ _ _ h=>h) (Or.inl ⟨by rfl, ?hy4_4⟩) (by assumption) ?rest4_4
    case hy4_4=>(intro w q;obtain ⟨g0',g1',g2',g4'⟩:=PR50.out w q;go_simp;try with_reducible rfl)
    refine layy ?_;refine' wpAnyH_take (i:=6) (v:=?v6_5) rfl (by kernel_rfl) (by kernel_rfl) (by kernel_rfl) (fun _ _ _ h=>h) (Or.inl ⟨by rfl, ?hy6_5⟩) (by assumption) ?rest6_5
    case hy6_5=>(intro w q;obtain ⟨g0',g1',g2',g4'⟩:=PR50.out w q;go_simp;try with_reducible rfl)
    refine layy ?_;refine' wpAnyH_take (i:=7) (v:=?v7_6) rfl (by kernel_rfl) (by kernel_rfl) (by kernel_rfl) (fun _ _ _ h=>h) (Or.inl ⟨by rfl, ?hy7_6⟩) (by assumption) ?rest7_6
    case hy7_6=>(intro w q;obtain ⟨g0',g1',g2',g4'⟩:=PR50.out w q;go_simp;try with_reducible rfl)
    refine layy ?_;refine' wpAnyH_take (i:=9) (v:=?v9_7) rfl (by kernel_rfl) (by kernel_rfl) (by kernel_rfl) (fun _ _ _ h=>h) (Or.inl ⟨by rfl, ?hy9_7⟩) (by assumption) ?rest9_7
    case hy9_7=>(intro w q;obtain ⟨g0',g1',g2',g4'⟩:=PR50.out w q;go_simp;try with_reducible rfl)
    refine layy ?_;refine' wpAnyH_take (i:=10) (v:=?v10_8) rfl (by kernel_rfl) (by kernel_rfl) (by kernel_rfl) (fun _ _ _ h=>h) (Or.inl ⟨by rfl, ?hy10_8⟩) (by assumption) ?rest10_8
    case hy10_8=>(intro w q;obtain ⟨g0',g1',g2',g4'⟩:=PR50.out w q;go_simp;try with_reducible rfl)
    refine layy ?_;refine wpAnyH_slots [2,5,8,11,12,13] [7,10,13,16,3] (fun L vs W=>∃ v1 v2 v3 v4 v5:Value,vs=[v1,v2,v3,v4,v5] ∧ Ext w1 W ∧ CpK w1 d.sizes d.order d.ends (.int .i64 rt) L W v1 v2 v3 v4 v5) (by kernel_rfl) (by kernel_rfl) ?h0 ?hsteps ?hend
    case h0=>exact ⟨_,_,_,_,_,rfl,hS,⟨hS,fun h=>(by cases h),fun h=>(by cases h),fun h=>(by cases h),fun h=>(by cases h),fun h=>(by cases h),fun h=>(by cases h),fun h=>(by cases h),fun h=>(by cases h),fun h=>(by cases h)⟩⟩
    case hsteps=>
     refine StepsInv.cons rfl ?_ (StepsInv.cons rfl ?_ (StepsInv.cons rfl ?_ (StepsInv.cons rfl ?_ (StepsInv.cons rfl ?_ (StepsInv.cons rfl ?_ StepsInv.nil)))))
     all_goals (try simp only [List.getElem_toArray,List.getElem_cons_zero,List.getElem_cons_succ])
     all_goals
      rintro L a w ⟨vs,ha,v1,v2,v3,v4,v5,rfl,hE,J⟩ hL hC;obtain rfl:=ha;intro K' hK
      (try simp only [putAll,Act.put,List.setIfInBounds_toArray,List.set_cons_zero,List.set_cons_succ])
     · go_simp
       go_at_call 103
       refine (IZ.out _ (E1.out.trans hE)).mono ?_;rintro e x ⟨p2,c2,rfl,hR2,y,-⟩
       go_wp2_with fail
       exact hK.out _ _ (hE.trans y) ⟨[_,v2,v3,v4,v5],rfl,_,_,_,_,_,rfl,hE.trans y,J.step2 hL y hR2.at_ hR2.frs⟩
     · go_simp
       go_at_call 103
       refine (IO.out _ (E1.out.trans hE)).mono ?_;rintro e x ⟨p2,c2,rfl,hR2,y,h0⟩
       go_wp2_with fail
       exact hK.out _ _ (hE.trans y) ⟨[v1,_,v3,v4,v5],rfl,_,_,_,_,_,rfl,hE.trans y,J.step5 hL y hR2.at_ h0 hR2.frs⟩
     · go_simp
       go_at_call 104
       refine (IE.out _ (E1.out.trans hE)).mono ?_;rintro e x ⟨p2,c2,rfl,hR2,y,hf⟩
       go_wp2_with fail
       exact hK.out _ _ (hE.trans y) ⟨[v1,v2,_,v4,v5],rfl,_,_,_,_,_,rfl,hE.trans y,J.step8 hL y hR2 hf⟩
     · have h2:L 2=true:=hC ⟨2,.data⟩ (by simp) rfl;have h5:L 5=true:=hC ⟨5,.data⟩ (by simp) rfl;have h8:L 8=true:=hC ⟨8,.data⟩ (by simp) rfl;have J':=J.step11 hL h2 h5 h8;obtain ⟨⟨p2,c2,rfl,-⟩,-⟩:=J.sz h2;obtain ⟨⟨p3,c3,rfl,-⟩,-⟩:=J.so h5;obtain ⟨⟨p4,c4,rfl,-⟩,-⟩:=J.se h8;go_simp;exact hK.out _ _ hE ⟨[_,_,_,_,v5],rfl,_,_,_,_,_,rfl,hE,J'⟩
     · go_simp;exact hK.out _ _ (hE.alloc _) ⟨[v1,v2,v3,v4,.pointer (some ⟨w.heap.size,0,none⟩)],rfl,_,_,_,_,_,rfl,hE.alloc _,J.step12 hL _⟩
     · have h11:L 11=true:=hC ⟨11,.data⟩ (by simp) rfl;have h12:L 12=true:=hC ⟨12,.data⟩ (by simp) rfl;obtain ⟨⟨g,d0,d1,d2,d3,d4,rfl,ow,-⟩,-⟩:=J.x h12;obtain ⟨J',EJ⟩:=J.step13 h11 h12;obtain ⟨h2,h5,h8,rfl⟩:=J.b h11;obtain ⟨⟨p2,c2,rfl,-⟩,-⟩:=J.sz h2;obtain ⟨⟨p3,c3,rfl,-⟩,-⟩:=J.so h5;obtain ⟨⟨p4,c4,rfl,-⟩,-⟩:=J.se h8;obtain ⟨o0,o1,o2,o3,o4,oz⟩:=ow;go_simp;exact hK.out _ _ EJ ⟨[_,_,_,_,_],rfl,_,_,_,_,_,rfl,EJ,J'⟩
    rintro LL _ w9 ⟨v1,v2,v3,v4,v5,rfl,E9,J⟩ hall;have j2:=hall 2 (by simp);have j5:=hall 5 (by simp);have j8:=hall 8 (by simp);have j12:=hall 12 (by simp);have j13:=hall 13 (by simp);have zx:=J.zx j2 j12;have ox:=J.ox j5 j12;have ex:=J.ex j8 j12;obtain ⟨⟨p2,c2,rfl,s2⟩,f2⟩:=J.sz j2;obtain ⟨⟨p3,c3,rfl,s3,on3⟩,f3⟩:=J.so j5;obtain ⟨⟨p4,c4',rfl,s4⟩,f4⟩:=J.se j8;obtain ⟨⟨gO,d0,d1,d2,d3,d4,rfl,ow,oe⟩,fx⟩:=J.x j12;obtain ⟨rfl,rfl,rfl,rfl,rfl⟩:=oe j13;have EE:=E1.out.trans E9;have C0:=Lib.hid (show CpSt w1 w9 d gO p2 c2 p3 c3 p4 c4' 0 none 0 [] from by
     have l1:=E1.out.le
     exact
      { ext:=E9
        o5:=by rw [HQ.out.2.2.2.2];exact ow
        s2:=s2
        s3:=s3
        er:=s4
        nr:=by simpa using RowN.nil w9 2 41
        kl:=rfl
        jl:=Nat.zero_le _
        ks:=fun i q k hq _=>by simp at hq
        lo:=fun b hb=>by
         rcases hb with rfl | hb | hb | hb | hb | hb
         · have h1:=fx b (by simp [vb2]);have h2:=cell_lt ow.a0;omega
         · have:=f2 b hb;omega
         · have:=f3 b hb;omega
         · have:=f4 b hb;omega
         · simp [blk] at hb
         · simp [kblk] at hb
        ng:=⟨fun hm=>zx gO hm (by simp [vb2]),fun hm=>ox gO hm (by simp [vb2]),fun hm=>ex gO hm (by simp [vb2]),by simp [blk],by simp [kblk]⟩
        np:=fun b hb=>by simp [blk] at hb })
    have OR9:=Lib.hid (OR.out.ext E9);have GD:=Lib.hid (show w9.cell? ⟨gd,3,none⟩=some (.slice pn n4 cn) from (E9.cell zg 3).trans g3);have HON:=Lib.hid on3;have GDL:=Lib.hid zg;have NG:=Lib.hid (show gr < w1.heap.size ∧ w1.heap.size ≤ gO from ⟨cell_lt OR.out.a0,fx gO (by simp [vb2])⟩);clear J hall zx ox ex s2 f2 s3 on3 f3 s4 f4 ow oe fx j2 j5 j8 j12 j13 EE E9 OR g0 g1 g2 g3 g4 zg hS;simp only [putAll,Act.put,List.setIfInBounds_toArray,List.set_cons_zero,List.set_cons_succ]
    go_wp2_with fail
    go_loopg [4] n4 (fun g' iv wr=>∃ (j:Nat) (qn:Option Addr) (qc:Nat) (KK:List (Option Addr × Nat)),j ≤ n4 ∧ n4-j ≤ g' ∧ iv = .int .i64 j ∧ Hid (CpSt w1 wr d gO p2 c2 p3 c3 p4 c4' j qn qc KK) ∧ Hid (Own5 wr gr (.slice none 0 0) (.slice none 0 0) (.slice none 0 0) (.slice none 0 0) (.int .i64 0)) ∧ Hid (wr.cell? ⟨gd,3,none⟩=some (.slice pn n4 cn)))
    case atStart=>exact ⟨0,none,0,[],Nat.zero_le _,by omega,rfl,C0,OR9,GD⟩
    case round=>
     obtain ⟨j,qn,qc,KK,hj,hg,rfl,C,OR,G⟩:=hrel;clear C0 OR9 GD;have g3:=G.out
     by_cases hlt:j < n4
     · have tk:decide ((j:Int) < (n4:Int))=true:=decide_eq_true (by omega);obtain ⟨q,hq⟩:=get_list (E:=d.nodes) (j:=j) (by rw [HQ.out.2.2.2.1];exact hlt);obtain ⟨⟨kp,kc⟩,hkk⟩:=get_list (E:=K) (j:=j) (by have:=H.out.kl;simp only at this;rw [this,HQ.out.2.2.2.1];exact hlt);obtain ⟨bn,on,hpn,hbn,hcn⟩:=(H.out.ext E1.out).node_cells (by rw [HQ.out.2.2.2.1];omega);simp only at hpn;subst hpn;obtain ⟨q1,q2⟩:=hcn j q _ hq hkk;have q1:=(C.out.ext.cell hbn (on+j * 2)).trans q1;have q2:=(C.out.ext.cell hbn (on+j * 2+1)).trans q2;have HBN:=Lib.hid hbn;have IK:=Lib.hid (fun W (hE:Ext wr W)=>ints14_any ((H.out.ks j q _ hq hkk).ext ((E1.out.trans C.out.ext).trans hE)) (HNK.out (kp,kc) (List.mem_of_getElem? hkk)) (HKL.out q (List.mem_of_getElem? hq)));have HQJ:=Lib.hid hq;have o3:=C.out.o5.a3;have z3:=C.out.o5.z 3;obtain ⟨v,ks⟩:=q;simp only at q1 q2 IK;obtain ⟨nk,hnk⟩:∃ n,ks.length=n:=⟨_,rfl⟩
       have HK:=Lib.hid hnk;rw [hnk] at q2 IK;clear hcn hq hkk hnk hbn;have GO:=Lib.hid (show gO < wr.heap.size from cell_lt o3)
       go_wp2_with fail
       refine wp_region_any (by kernel_rfl) ?_;refine wpAny_to_X (S:=(fun W:World=>W.cell? ⟨gd,3,none⟩=some (.slice (some ⟨bn,on,none⟩) n4 cn) ∧ W.cell? ⟨bn,on+j * 2,none⟩=some (.int .i64 v) ∧ W.cell? ⟨bn,on+j * 2+1,none⟩=some (.slice kp nk kc) ∧ W.cell? ⟨gO,3,none⟩=some (.slice qn j qc))) (R:=Eq) 19 19 (fun _=>rfl) (by exact ⟨g3,q1,q2,o3⟩) ?_ (by rfl);refine' tkE 0 rfl ?hy0_9 ?_
       case hy0_9=>(intro w _;go_simp;try with_reducible rfl)
       refine layy ?_;refine' tkE 1 rfl ?hy1_10 ?_
       case hy1_10=>(intro w hSw;(obtain ⟨s1,s2,s3,s4⟩:=hSw);go_simp;try with_reducible rfl)
       refine layy ?_;refine' tkE 2 rfl ?hy2_11 ?_
       case hy2_11=>(intro w _;go_simp;try with_reducible rfl)
       refine layy ?_;refine' tkE 3 rfl ?hy3_12 ?_
       case hy3_12=>(intro w hSw;(obtain ⟨s1,s2,s3,s4⟩:=hSw);go_simp;try with_reducible rfl)
       refine layy ?_;refine' tkE 4 rfl ?hy4_13 ?_
       case hy4_13=>(intro w _;go_simp;try with_reducible rfl)
       refine layy ?_;refine' tkE 5 rfl ?hy5_14 ?_
       case hy5_14=>(intro w _;go_simp;try with_reducible rfl)
       refine layy ?_;refine' tkE 6 rfl ?hy6_15 ?_
       case hy6_15=>(intro w _;go_simp;try with_reducible rfl)
       refine layy ?_;refine' tkE 7 rfl ?hy7_16 ?_
       case hy7_16=>(intro w hSw;(obtain ⟨s1,s2,s3,s4⟩:=hSw);go_simp;try with_reducible rfl)
       refine layy ?_;refine' tkE 8 rfl ?hy8_17 ?_
       case hy8_17=>(intro w _;go_simp;try with_reducible rfl)
       refine layy ?_;refine' tkE 9 rfl ?hy9_18 ?_
       case hy9_18=>(intro w hSw;(obtain ⟨s1,s2,s3,s4⟩:=hSw);go_simp;try with_reducible rfl)
       refine layy ?_;refine' tkE 10 rfl ?hy10_19 ?_
       case hy10_19=>(intro w _;go_simp;try with_reducible rfl)
       refine layy ?_;refine' tkE 11 rfl ?hy11_20 ?_
       case hy11_20=>(intro w _;go_simp;try with_reducible rfl)
       refine layy ?_;refine' tkE 12 rfl ?hy12_21 ?_
       case hy12_21=>(intro w _;go_simp;try with_reducible rfl)
       refine layy ?_;refine' tkE 13 rfl ?hy13_22 ?_
       case hy13_22=>(intro w hSw;(obtain ⟨s1,s2,s3,s4⟩:=hSw);go_simp;try with_reducible rfl)
       refine layy ?_;have W1:=Lib.hid (show Ext wr (World.drew wr) from Ext.drew (Ext.refl wr));change wpAnyX _ _ _ _ _ _ _ _ _ _ _ (World.drew wr);generalize World.drew wr=wd at W1 ⊢;refine wpAnyX_fork [14] (by kernel_rfl) (by simp) (by simp) ?_;intro i14 hi14;obtain rfl:i14=14:=by simpa using hi14
       refine wpOp_call (i:=14) (f:=103) (args:=#[.slice kp nk kc]) rfl (by rfl) (by go_simp) ?_;refine (IK.out wd W1.out).mono ?_;rintro e w2 ⟨p0,c0,rfl,hR0,hE0,-⟩;have W2:=Lib.hid (W1.out.trans hE0);have SK0:=Lib.hid hR0.at_;have FR0:=Lib.hid (show ∀ b ∈ blk p0,wr.heap.size ≤ b ∧ b < w2.heap.size from fun b hb=>by have:=hR0.frs b hb;have:=W1.out.le;omega);have g32:=(W2.out.cell (cell_lt g3) 3).trans g3;have q12:=(W2.out.cell (cell_lt q1) (on+j * 2)).trans q1;have q22:=(W2.out.cell (cell_lt q1) (on+j * 2+1)).trans q2;have o32:=(W2.out.cell (cell_lt o3) 3).trans o3;refine ⟨_,rfl,⟨g32,q12,q22,o32⟩, ?_⟩;clear hR0 hE0;refine layy ?_;rw [HK.out]
       skip
       refine' tkE 15 rfl ?hy15_23 ?_
       case hy15_23=>(intro w _;go_simp;try with_reducible rfl)
       refine layy ?_;refine wpAnyX_fork [16] (by kernel_rfl) (by simp) (by simp) ?_;intro i16 hi16;obtain rfl:i16=16:=by simpa using hi16
       have A3:Ext w2 (w2.alloc (.cells #[.int .i64 v,.slice p0 nk c0] 41)):=Ext.alloc (Ext.refl w2) _;have e0:(w2.alloc (.cells #[.int .i64 v,.slice p0 nk c0] 41)).cell? ⟨w2.heap.size,0,none⟩=some (.int .i64 v):=by go_simp
       have e1:(w2.alloc (.cells #[.int .i64 v,.slice p0 nk c0] 41)).cell? ⟨w2.heap.size,1,none⟩=some (.slice p0 nk c0):=by go_simp
       refine wpOp_value (i:=16) (v:=.slice (some ⟨w2.heap.size,0,none⟩) 1 1) (w'':=w2.alloc (.cells #[.int .i64 v,.slice p0 nk c0] 41)) rfl (by rfl) (by go_simp) ⟨⟨(A3.cell (cell_lt g32) 3).trans g32,(A3.cell (cell_lt q12) (on+j * 2)).trans q12,(A3.cell (cell_lt q12) (on+j * 2+1)).trans q22,(A3.cell (cell_lt o32) 3).trans o32⟩, ?_⟩;refine layy ?_;have g33:=(A3.cell (cell_lt g32) 3).trans g32;have q13:=(A3.cell (cell_lt q12) (on+j * 2)).trans q12;have q23:=(A3.cell (cell_lt q12) (on+j * 2+1)).trans q22;have o33:=(A3.cell (cell_lt o32) 3).trans o32;have W3:=Lib.hid (W2.out.trans A3);have SK3:=Lib.hid (SK0.out.ext A3);have FR3:=Lib.hid (show ∀ b ∈ blk p0,wr.heap.size ≤ b ∧ b < (w2.alloc (.cells #[.int .i64 v,.slice p0 nk c0] 41)).heap.size from fun b hb=>⟨(FR0.out b hb).1,Nat.lt_of_lt_of_le (FR0.out b hb).2 A3.le⟩);clear g32 q12 q22 o32 A3 SK0 FR0 W1 W2;generalize w2.heap.size=gt at e0 e1 ⊢;generalize w2.alloc (.cells #[.int .i64 v,.slice p0 nk c0] 41)=w3 at *;refine wpAnyX_fork [17] (by kernel_rfl) (by simp) (by simp) ?_;intro i17 hi17;obtain rfl:i17=17:=by simpa using hi17
       have hjl:j ≤ d.nodes.length:=by rw [HQ.out.2.2.2.1];omega
       refine wpOp_append_N (i:=17) (.tmp 25) (.tmp 40) 47 41 rfl rfl (by rfl) (z:=.agg #[.int .i64 0,.slice none 0 0]) (n:=2) (bytes:=32) Tryz.underlying47 (by kernel_rfl) rfl (by decide) (by decide) (m:=j) (by rw [List.length_zipWith,C.out.kl,List.length_take,Nat.min_eq_left hjl,Nat.min_self]) rfl rfl (C.out.nr.ext W3.out) (y:=[.int .i64 v,.slice p0 nk c0]) rfl (cells2 e0 e1) (by simp [Value.oneCell']) (by omega) ?_;intro g cap w4 row hR hG hrow hg' hlt';have CG:=Lib.hid (C.out.grow W3.out (q:=(v,ks)) HQJ.out SK3.out FR3.out (by rw [show nodeC (v,ks) (p0,c0)=[.int .i64 v,.slice p0 nk c0] by simp [nodeC,HK.out]];exact hR) hG hrow hg' hlt');have k4:But (blk qn) w3 w4:=⟨hG.os,hG.tape,hG.output,hG.size,fun i hi hn=>hG.block i hi fun e=>hn (by rw [hrow i e.symm];simp [blk])⟩
       have nq:∀ b,b < w1.heap.size → b ∉ blk qn:=fun b h2 hm=>by
        have h3:=(C.out.lo b (.inr (.inr (.inr (.inr (.inl hm)))))).1;omega
       have g34:=(k4.cell (cell_lt g33) (nq _ GDL.out) 3).trans g33;have q14:=(k4.cell (cell_lt q13) (nq _ HBN.out) (on+j * 2)).trans q13;have q24:=(k4.cell (cell_lt q13) (nq _ HBN.out) (on+j * 2+1)).trans q23;have o34:=(k4.cell (cell_lt o33) C.out.ng.2.2.2.1 3).trans o33;have z34:=(k4.frozen (cell_lt o33) C.out.ng.2.2.2.1 3).trans ((W3.out.frozen GO.out 3).trans z3);have K5:=Lib.hid (show But (gO :: blk qn) w3 (w4.setCell ⟨gO,3,none⟩ (.slice (some ⟨g,0,none⟩) (j+1) cap)) from (k4.mono (l':=gO :: blk qn) (fun x hx=>by simp [hx])).trans (((But.refl [gO] w4).setCell (.inl (by simp)) _).mono (l':=gO :: blk qn) (fun x hx=>by rw [List.mem_singleton.1 hx];simp)));have NQ:=Lib.hid nq;refine ⟨⟨g34,q14,q24,o34⟩, ?_⟩;refine layy ?_;clear hR hG hrow hg' hlt' g33 q13 q23 o33 e0 e1 k4 nq hjl
       skip
       refine' tkE 18 rfl ?hy18_24 ?_
       case hy18_24=>(intro w _;go_simp;try with_reducible rfl)
       refine layy ?_;refine wpAnyX_done (by kernel_rfl) ?_;intro w9 e9 _;subst e9;simp only [List.drop_succ_cons,List.drop_zero];have O6:=Lib.hid (OR.out.ext W3.out |>.but K5.out (fun hm=>by
        rcases List.mem_cons.1 hm with e | hm
        · have:=NG.out;omega
        · exact NQ.out _ NG.out.1 hm))
       have G6:=Lib.hid (((K5.out.cell (Nat.lt_of_lt_of_le (cell_lt g3) W3.out.le) (fun hm=>by
        rcases List.mem_cons.1 hm with e | hm
        · have:=GDL.out;have:=NG.out;omega
        · exact NQ.out _ GDL.out hm) 3).trans (W3.out.cell (cell_lt g3) 3)).trans g3)
       clear C OR G g3
       go_wp2_with fail
       go_roundg (n4-(j+1))
       case measure=>omega
       case rel=>exact ⟨j+1,some ⟨g,0,none⟩,cap,KK ++ [(p0,c0)],by omega,Nat.le_refl _,by go_num,CG,O6,G6⟩
     · have:j=n4:=by omega
       subst this;have tk:decide ((j:Int) < (j:Int))=false:=decide_eq_false (by omega);obtain ⟨a0,a1,a2,a3,a4,az⟩:=C.out.o5;rw [HQ.out.1] at a0;rw [HQ.out.2.1] at a1;rw [HQ.out.2.2.1] at a2;rw [HQ.out.2.2.2.2] at a4;obtain ⟨b0,b1,b2,b3,b4,bz⟩:=OR.out;have O6:=Lib.hid (Own5.set (d0:=.slice p2 n1 c2) (d1:=.slice p3 n2 c3) (d2:=.slice p4 n3 c4') (d3:=.slice qn j qc) (d4:=.int .i64 rt) OR.out);have K6:=Lib.hid (show But [gr] wr (((((wr.setCell ⟨gr,0,none⟩ (.slice p2 n1 c2)).setCell ⟨gr,1,none⟩ (.slice p3 n2 c3)).setCell ⟨gr,2,none⟩ (.slice p4 n3 c4')).setCell ⟨gr,3,none⟩ (.slice qn j qc)).setCell ⟨gr,4,none⟩ (.int .i64 rt)) from (((((But.refl _ _).setCell (.inl (by simp)) _).setCell (.inl (by simp)) _).setCell (.inl (by simp)) _).setCell (.inl (by simp)) _).setCell (.inl (by simp)) _)
       go_wp2_with fail
       clear a0 a1 a2 a3 a4 az b0 b1 b2 b3 b4 bz;obtain ⟨a0,a1,a2,a3,a4,-⟩:=O6.out;refine bodyPost_ret (v:=.agg #[.slice p2 n1 c2,.slice p3 n2 c3,.slice p4 n3 c4',.slice qn j qc,.int .i64 rt]) (by simp [results,Tryz.results38,go_sem, *]) rfl ?_;have ht:d.nodes.take j=d.nodes:=List.take_of_length_le (by rw [HQ.out.2.2.2.1];exact Nat.le_refl _);have hnr:=C.out.nr.rd;have hks:=C.out.ks;rw [ht] at hnr hks;have D5:DgRd wr ⟨p2,c2,p3,c3,p4,c4',qn,qc,KK⟩ d.sizes d.order d.ends d.nodes:=⟨C.out.s2,C.out.s3,C.out.er,hnr,by rw [HQ.out.2.2.2.1];exact C.out.kl,hks⟩
       have LB:∀ b ∈ (⟨p2,c2,p3,c3,p4,c4',qn,qc,KK⟩:DgL).blocks,w1.heap.size ≤ b ∧ b < wr.heap.size:=fun b hb=>C.out.lo b (by
        simp only [DgL.blocks,List.mem_append] at hb
        rcases hb with (((hb | hb) | hb) | hb) | hb
        · exact .inr (.inl hb)
        · exact .inr (.inr (.inl hb))
        · exact .inr (.inr (.inr (.inl hb)))
        · exact .inr (.inr (.inr (.inr (.inl hb))))
        · exact .inr (.inr (.inr (.inr (.inr hb)))))
       have D6:=D5.but K6.out (fun b hb hm=>by
        have:=(LB b hm).1;have:=NG.out;rw [List.mem_singleton.1 hb] at *;omega)
       refine ⟨_, ?_,D6,K6.out.toExt (E1.out.trans C.out.ext) (fun b hb=>by rw [List.mem_singleton.1 hb];exact GR.out),fun b hb=>?_,HON.out⟩
       · rw [HQ.out.1,HQ.out.2.1,HQ.out.2.2.1,HQ.out.2.2.2.1,HQ.out.2.2.2.2];rfl
       · have h1:=LB b hb;have h2:=E1.out.le;have h3:=K6.out.size;omega
theorem looseB_Loose {d:Nd.Dia} (fr:Hp.FrOk d.sizes d.order) (h:looseB d=true) (h0:∀ v ∈ d.ends,0 ≤ v.1):d.Loose:=by
 have hroot:=(looseB_low h).2
 unfold looseB at h
 simp only [Bool.and_eq_true,List.all_eq_true,List.mem_range] at h
 obtain ⟨⟨h1,h2⟩,h3⟩:=h
 have hnode:∀ q ∈ d.nodes,(0 ≤ q.1 ∧ q.1 < d.sizes.length) ∧ (q.2.length:Int)=d.sizes.getD q.1.toNat 0:=fun q hq=>by
  obtain ⟨i,hi⟩:=List.mem_iff_getElem?.1 hq;have hil:=(List.getElem?_eq_some_iff.1 hi).1;have:=h2 i hil;unfold branchB at this;have hqa:d.nodeAt i=q:=by unfold Nd.Dia.nodeAt;rw [hi];rfl
  rw [hqa] at this;simp only [Bool.and_eq_true,Hp.within,decide_eq_true_eq] at this;exact ⟨by omega,this.1.2⟩
 exact
  { fr:=fr
    ends:=fun v hv=>by
     have a:=h0 v hv;have b:=h1 v hv;unfold cellOk at b
     split at b
     · rename_i e;simp only [Hp.within,Bool.and_eq_true,decide_eq_true_eq] at b;omega
     · simp only [Bool.and_eq_true,decide_eq_true_eq] at b;omega
    var:=fun q hq=>by
     obtain ⟨a,b⟩:=hnode q hq;omega
    kids:=fun i hi k hk=>by
     have hb:=h2 i hi;have hv:=branchB_var hb;unfold branchB at hb;simp only [Bool.and_eq_true,List.all_eq_true] at hb;have hkb:=hb.2 k hk;unfold kidB at hkb;simp only [Bool.and_eq_true,decide_eq_true_eq] at hkb;obtain ⟨r1,r2⟩:=hkb;have ref:=refB_iff.1 r1;refine ⟨ref, ?_⟩;rw [rankO_in fr hv] at r2;unfold Nd.Dia.rk
     by_cases hk0:k < 0
     · rw [if_pos hk0];have:rankO d k=d.order.length:=by unfold rankO;rw [if_pos hk0]
       omega
     · rw [if_neg hk0];obtain ⟨m,rfl⟩:∃ m:Nat,k=(m:Int):=⟨k.toNat,by omega⟩
       have hm:m < d.nodes.length:=by have:=ref.1;omega
       rw [rankO_in fr (branchB_var (h2 m hm))] at r2;rw [Int.toNat_natCast];omega
    root:=hroot }
structure DgPar (w:World) (L:DgL) (d:Nd.Dia):Prop where
 rd:DgRd w L d.sizes d.order d.ends d.nodes
 nil:NilD L
 f:∀ v ∈ d.ends,(0 ≤ v.1 ∧ v.1 ≤ 255) ∧ -9223372036854775808 ≤ v.2 ∧ v.2 ≤ 9223372036854775807
 vars:∀ q ∈ d.nodes,-9223372036854775808 ≤ q.1 ∧ q.1 ≤ 9223372036854775807
 kids:∀ q ∈ d.nodes,∀ k ∈ q.2,-9223372036854775808 ≤ k ∧ k ≤ 9223372036854775807
 root : -9223372036854775808 ≤ d.root ∧ d.root ≤ 9223372036854775807
theorem DgPar.ext {w w':World} {L:DgL} {d:Nd.Dia} (h:DgPar w L d) (k:Ext w w'):DgPar w' L d:={ h with rd:=h.rd.ext k }
theorem thinD_facts {d:Nd.Dia} (h:thinD d=true):d.sizes.length ≤ 8 ∧ d.order.length ≤ 8 ∧ d.ends.length ≤ 40 ∧ d.nodes.length ≤ 60 ∧ ∀ q ∈ d.nodes,q.2.length ≤ 14:=by
 unfold thinD Hp.slimB at h
 simp only [Bool.and_eq_true,decide_eq_true_eq,List.all_eq_true] at h
 obtain ⟨⟨h1,h2,_⟩,h3,h4,h5⟩:=h
 exact ⟨h1,h2,h3,h4,h5⟩
theorem DgPar.num {w:World} {L:DgL} {d:Nd.Dia} (h:DgPar w L d) (ht:thinD d=true):DgNum d:=by
 obtain ⟨_,_,h3,h4,_⟩:=thinD_facts ht
 exact ⟨fun v hv=>(h.f v hv).1.1,by omega,by omega,h.kids,h.root⟩
theorem DgPar.numN {w:World} {L M:DgL} {d:Nd.Dia} (h:DgPar w L d) (ht:thinD d=true) (on:0 < d.order.length ∨ M.po=none):DgNumN d M:=by
 obtain ⟨_,h2,h3,h4,_⟩:=thinD_facts ht
 exact ⟨h.num ht,by omega,by omega,by omega,on,fun v hv=>(h.f v hv).2,h.vars⟩
structure BackIn (d:Nd.Dia) (S:Hp.Hs) (x:Int):Prop where
 wf:∃ B L ch,Hp.Wf S B L ch
 rt:∃ a:Nat,x=(a:Int) ∧ a ∈ S.taken ∧ ∃ D,S.diagram a=some (d.root,D) ∧ D.ends=d.ends ∧ D.nodes=d.nodes
 again:Nd.put d S=some (x,0,S)
 many:S.taken.length=d.ends.length+d.nodes.length
 sz:S.sizes=d.sizes
 or_:S.order=d.order
theorem back_put {d:Nd.Dia} {k:Nat} (hk:83 ≤ k) (hk2:k ≤ 90000) (hL:d.Loose) (his:d.Is):∃ S,Hp.new d.sizes d.order (17+k)=some S ∧ S.sizes=d.sizes ∧ S.order=d.order ∧ Hp.Good S 0 ∧ ((∃ S',Nd.put d S=some (0,8,S') ∧ 4 < d.nodes.length+d.ends.length) ∨ ∃ x S',Nd.put d S=some (x,0,S') ∧ BackIn d S' x):=by
 obtain ⟨S,h1,h2,h3,h4,hw⟩:=Hp.new_wf hL.fr (n:=17+k) (by omega) (by omega)
 refine ⟨S,h1,h2,h3,⟨_,_,hw⟩, ?_⟩
 have ht:S.taken=[]:=by
  unfold Hp.new at h1;simp only [Hp.wr,Option.bind_eq_bind,Option.bind_eq_some_iff,Option.pure_def,Option.some.injEq] at h1;obtain ⟨_,_,_,_,rfl⟩:=h1;rfl
 rcases Nd.put_in (n:=k) hL his.toOnce hw (by simp [Hp.OneFree,Hp.freeOf]) (by simp [Hp.freeSum]) ht h2 h3 with ⟨S',e,hn⟩ | ⟨A,N,S',e,hA,hN,P⟩
 · exact .inl ⟨S',e,by omega⟩
 · refine .inr ⟨_,S',e, ?_⟩;have hg:∃ B L ch,Hp.Wf S' B L ch:=by
    obtain ⟨L,ch,hw',_⟩:=P.wf;exact ⟨_,L,ch,hw'⟩
   have hin:Nd.ad A N d.root ∈ S'.taken:=by
    have hr:=hL.root
    by_cases h0:d.root < 0
    · exact (P.ends _ _ (P.toPutAt.end_ h0 (by rw [hA];exact hr.2))).1
    · exact (P.nodes _ _ (P.toPutAt.node_ h0 (by rw [hN];exact hr.1))).1
   exact ⟨hg,⟨Nd.ad A N d.root,rfl,hin,Nd.diagram_put P.toPutAt hL his hA hN⟩,Nd.put_again P.toPutAt hg hL hA hN,by rw [P.many,hA,hN],P.sizes,P.order⟩
end Go.Proofs.YtdokmmhjmclmnaaGreat
