/- Part 39 of a proof. -/
import Derived.Test.YtdokmmhjmclmnaaGreatMU38
set_option linter.unusedSimpArgs false
set_option linter.unusedVariables false
set_option linter.unusedSectionVars false
set_option linter.unnecessarySimpa false
set_option maxHeartbeats 16000000
set_option maxRecDepth 100000
namespace Go.Proofs.YtdokmmhjmclmnaaGreat
open Go.Proofs.Tryz
variable {W' w w' w0 wb:World} {B a b bx c ca cap ce cn f g i j k lb m n qc:Nat} {choice e t x:Int} {A W fs ks l o z:List Int} {D T Y:List Nat} {p p2 pa pe pn q:Option Addr} {d:Hd} {S S':Hp.Hs} {r:Rd} {L:List Hp.Tl} {M:List (Nat × Int)} {s:Hp.Sc}
open Go.RowKit Go.Maps
def kblk (K:List (Option Addr × Nat)):List Nat:=K.flatMap fun k=>blk k.1
structure CpSt (w wr:World) (d:Nd.Dia) (gO:Nat) (p2:Option Addr) (c2:Nat) (p3:Option Addr) (c3:Nat) (pe:Option Addr) (ce:Nat) (j:Nat) (pn:Option Addr) (cn:Nat) (K:List (Option Addr × Nat)):Prop where
 ext:Ext w wr
 o5:Own5 wr gO (.slice p2 d.sizes.length c2) (.slice p3 d.order.length c3) (.slice pe d.ends.length ce) (.slice pn j cn) (.int .i64 d.root)
 s2:SliceAt wr p2 c2 d.sizes
 s3:SliceAt wr p3 c3 d.order
 er:RdN wr 2 pe ce (d.ends.map endC)
 nr:RowN wr 2 41 pn cn (List.zipWith S4a (d.nodes.take j) K)
 kl:K.length=j
 jl:j<=d.nodes.length
 ks:∀ (i:Nat) (q:Int × List Int) (k:Option Addr × Nat),(d.nodes.take j)[i]? = some q->K[i]? = some k->SliceAt wr k.1 k.2 q.2
 lo:∀ b,b=gO \/ b ∈ blk p2 \/ b ∈ blk p3 \/ b ∈ blk pe \/ b ∈ blk pn \/ b ∈ kblk K->w.heap.size<=b/\b < wr.heap.size
 ng:gO ∉ blk p2/\gO ∉ blk p3/\gO ∉ blk pe/\gO ∉ blk pn/\gO ∉ kblk K
 np:∀ b ∈ blk pn,b ∉ blk p2/\b ∉ blk p3/\b ∉ blk pe/\b ∉ kblk K
namespace CpSt
variable {w wr w':World} {d:Nd.Dia} {gO:Nat} {p2 p3 pe pn:Option Addr} {c2 c3 ce cn j:Nat} {K:List (Option Addr × Nat)}
theorem ext' (h:CpSt w wr d gO p2 c2 p3 c3 pe ce j pn cn K) (k:Ext wr w'):CpSt w w' d gO p2 c2 p3 c3 pe ce j pn cn K:=
 { h with
   ext:=h.ext.trans k
   o5:=h.o5.ext k
   s2:=h.s2.ext k
   s3:=h.s3.ext k
   er:=h.er.ext k
   nr:=h.nr.ext k
   ks:=fun i q kk hq hk=>(h.ks i q kk hq hk).ext k
   lo:=fun b hb=>⟨(h.lo b hb).1,x4b (h.lo b hb).2 k.le⟩ }
theorem mem_k {k:Option Addr × Nat} {o:Nat} (hk:K[i]? = some k) (e:k.1=some ⟨b,o,none⟩):b ∈ kblk K:=B0c.2 ⟨k,u1b hk,C2a e⟩
theorem set3 {W:World} {c0 c1 c2 c3 c4 d3:Value} (h:Own5 W g c0 c1 c2 c3 c4):Own5 (W.setCell ⟨g,3,none⟩ d3) g c0 c1 c2 d3 c4:=by
 obtain ⟨a0,a1,a2,a3,a4,z⟩:=h
 exact ⟨by simp [go_sem,a0],by simp [go_sem,a1],by simp [go_sem,a2],by simp [go_sem,a3],by simp [go_sem,a4],fun o=>by simp [go_sem,z]⟩
theorem grow (h:CpSt w wr d gO p2 c2 p3 c3 pe ce j pn cn K) {w1 w2:World} (e1:Ext wr w1) {p0:Option Addr} {c0:Nat} {row:Option Nat} {q:Int × List Int} (hq:d.nodes[j]? = some q) (hs:SliceAt w1 p0 c0 q.2) (hf:∀ b ∈ blk p0,wr.heap.size<=b/\b < w1.heap.size)
    (hR:RowN w2 2 41 (some ⟨g,0,none⟩) cap (List.zipWith S4a (d.nodes.take j) K ++ [S4a q (p0,c0)])) (hG:w1.grownBy w2 row) (hrow:∀ r,row=some r->pn=some ⟨r,0,none⟩) (hg:pn=some ⟨g,0,none⟩ \/ g=w1.heap.size) (hlt:g < w2.heap.size) :
    CpSt w (w2.setCell ⟨gO,3,none⟩ (.slice (some ⟨g,0,none⟩) (j+1) cap)) d gO p2 c2 p3 c3 pe ce (j+1) (some ⟨g,0,none⟩) cap (K ++ [(p0,c0)]):=by
  have H1:=h.ext' e1;have k2:But (blk pn) w1 w2:=⟨hG.os,hG.tape,hG.output,hG.size,fun i hi hn=>hG.block i hi fun e=>hn (by rw [hrow i e.symm];simp [blk])⟩
  have k3:But [gO] w2 (w2.setCell ⟨gO,3,none⟩ (.slice (some ⟨g,0,none⟩) (j+1) cap)):=(But.refl _ _).setCell (.inl (by simp)) _;have kb:But (gO :: blk pn) w1 (w2.setCell ⟨gO,3,none⟩ (.slice (some ⟨g,0,none⟩) (j+1) cap)):=(k2.mono (l':=gO :: blk pn) (fun x hx=>by simp [hx])).trans (k3.mono (l':=gO :: blk pn) (fun x hx=>by rw [w8b.1 hx];simp));have sz:w2.heap.size=(w2.setCell ⟨gO,3,none⟩ (.slice (some ⟨g,0,none⟩) (j+1) cap)).heap.size:=by simp [World.setCell]
  have s1:=e1.le;have s2:=k2.size;have s0:=h.ext.le;have gblk:∀ b ∈ blk (some (⟨g,0,none⟩:Addr)),b=g:=fun b hb=>by simpa [blk] using hb
  have gI:g ∈ blk pn \/ wr.heap.size<=g:=hg.imp (fun e=>by rw [e];simp [blk]) (fun e=>by omega);have hl:=(q5b.1 hq).1;have ht:d.nodes.take (j+1)=d.nodes.take j ++ [q]:=by rw [y6b,hq];rfl
  have kk:kblk (K ++ [(p0,c0)])=kblk K ++ blk p0:=by simp [kblk]
  have nl:∀ b,b ≠ gO->b ∉ blk pn->b ∉ gO :: blk pn:=fun b h1 h2 hm=>by
   rcases E6c.1 hm with e | e
   . exact h1 e
   exact h2 e
  have gne:∀ b,b < wr.heap.size->b ∉ blk pn->b ≠ g:=fun b h1 h2 e=>by
   subst e
   rcases gI with h | h
   . exact h2 h
   omega
  have gOl:=(h.lo gO (.inl rfl)).2;have pf:∀ b ∈ blk p0,b ≠ gO/\b ∉ blk pn/\b ≠ g:=fun b hb=>by
   have h1:=hf b hb;refine ⟨by omega,fun hm=>by have:=(h.lo b (.inr (.inr (.inr (.inr (.inl hm)))))).2;omega,fun e=>?_⟩
   rcases hg with h2 | h2
   . have:=(h.lo g (.inr (.inr (.inr (.inr (.inl (by rw [h2];simp [blk]))))))).2;omega
   omega
  obtain ⟨n1,n2,n3,n4,n5⟩:=h.ng
  exact
   { ext:=kb.D3a H1.ext fun b hb=>by
       rcases E6c.1 hb with rfl | hb
       . exact (h.lo _ (.inl rfl)).1
       exact (h.lo b (.inr (.inr (.inr (.inr (.inl hb)))))).1
     o5:=set3 (H1.o5.but k2 n4)
     s2:=H1.s2.but kb fun b o e=>nl b (fun e'=>n1 (by rw [<- e'];exact C2a e)) (fun hm=>(h.np b hm).1 (C2a e))
     s3:=H1.s3.but kb fun b o e=>nl b (fun e'=>n2 (by rw [<- e'];exact C2a e)) (fun hm=>(h.np b hm).2.1 (C2a e))
     er:=H1.er.but kb fun b o e=>nl b (fun e'=>n3 (by rw [<- e'];exact C2a e)) (fun hm=>(h.np b hm).2.2.1 (C2a e))
     nr:=by
      rw [ht,List.zipWith_append (by rw [A3c,h.kl];omega)];exact hR.but k3 fun b o e hm=>by
       cases e
       exact gne _ gOl n4 (w8b.1 hm).symm
     kl:=by simp [h.kl]
     jl:=hl
     ks:=fun i q' k hq' hk=>by
      rw [ht] at hq'
      by_cases hi:i < j
      . rw [q6b (by rw [A3c];omega)] at hq';rw [q6b (by rw [h.kl];exact hi)] at hk;exact (H1.ks i q' k hq' hk).but kb fun b o e=>nl b (fun e'=>n5 (by rw [<- e'];exact mem_k hk e)) (fun hm=>(h.np b hm).2.2.2 (mem_k hk e))
      have hil:=(q5b.1 hk).1;simp [h.kl] at hil;have:i=j:=by omega
      subst this;rw [q0b (by rw [A3c];omega),A3c,D1c (by omega),G1c] at hq';rw [q0b (by rw [h.kl];exact H0c _),h.kl,G1c] at hk
      cases hq'
      cases hk
      exact hs.but kb fun b o e=>nl b (pf b (C2a e)).1 (pf b (C2a e)).2.1
     lo:=fun b hb=>by
      rw [<- sz];have old:b=gO \/ b ∈ blk p2 \/ b ∈ blk p3 \/ b ∈ blk pe \/ b ∈ blk pn \/ b ∈ kblk K->w.heap.size<=b/\b < w2.heap.size:=fun hb=>by have:=h.lo b hb;omega
      rw [kk] at hb
      rcases hb with hb | hb | hb | hb | hb | hb
      . exact old (.inl hb)
      . exact old (.inr (.inl hb))
      . exact old (.inr (.inr (.inl hb)))
      . exact old (.inr (.inr (.inr (.inl hb))))
      . have:=gblk b hb;subst this
        rcases gI with h' | h'
        . exact old (.inr (.inr (.inr (.inr (.inl h')))))
        omega
      rcases C4c.1 hb with hb | hb
      . exact old (.inr (.inr (.inr (.inr (.inr hb)))))
      have:=hf b hb;omega
     ng:=by
      rw [kk];refine ⟨n1,n2,n3,fun hm=>gne _ gOl n4 (gblk _ hm),fun hm=>?_⟩
      rcases C4c.1 hm with hm | hm
      . exact n5 hm
      exact (pf _ hm).1 rfl
     np:=fun b hb=>by
      have:=gblk b hb;subst this;rw [kk];have key:∀ x,(x ∈ blk p2 \/ x ∈ blk p3 \/ x ∈ blk pe \/ x ∈ kblk K)->x ≠ b:=fun x hx=>gne x (h.lo x (by rcases hx with hx | hx | hx | hx <;> simp [hx])).2 (fun hm=>by
       obtain ⟨a1,a2,a3,a4⟩:=h.np x hm
       rcases hx with hx | hx | hx | hx
       . exact a1 hx
       . exact a2 hx
       . exact a3 hx
       . exact a4 hx)
      refine ⟨fun hm=>key b (.inl hm) rfl,fun hm=>key b (.inr (.inl hm)) rfl,fun hm=>key b (.inr (.inr (.inl hm))) rfl,fun hm=>?_⟩
      rcases C4c.1 hm with hm | hm
      . exact key b (.inr (.inr (.inr hm))) rfl
      . exact (pf b hm).2.2 rfl }
end CpSt
open Go.RowKit Go.Maps
section
variable {P:Program} {ops:Array Oper} {Q:Exit->Act->World->Prop}
theorem V0b {oi:Oper} {f:FuncId} {args:Array Value} {K:Act->World->Prop} {a:Act} (hi:ops[i]? = some oi) (hw:Region.wanted oi (yielded ops a.tmps)=true)
    (hrun:(execOp a.eval oi).run P w = .ok (.enter f args) w) (hc:Calls P f args w fun e w'=>∃ v,e = .returned v/\K (a.put oi.dst v) w'):wpOp P ops Q i K a w:=by
  unfold wpOp;simp only [hi];rw [H5c hw];refine .inl ?_;unfold Oper.wp;rw [hrun];refine hc.mono ?_;rintro e w'' ⟨v,rfl,hk⟩;exact hk
end
structure NilD (L:DgL):Prop where
 zs:L.ps=none->L.cs=0
 os:L.po=none->L.co=0
 es:L.pe=none->L.ce=0
 ks:∀ k ∈ L.K,k.1=none->k.2=0
def b4b (w:World) (d:Nd.Dia) (e:Ending) (w':World):Prop:=
 ∃ M:DgL,e = .returned (dgV M d.sizes.length d.order.length d.ends.length d.nodes.length d.root)/\DgRd w' M d.sizes d.order d.ends d.nodes/\Ext w w'/\(∀ b ∈ M.blocks,w.heap.size<=b/\b < w'.heap.size)/\(0 < d.order.length \/ M.po=none)
theorem Row.frs (h:Row w' w.heap.size p c l):∀ b ∈ blk p,w.heap.size<=b/\b < w'.heap.size:=fun b hb=>by
 obtain ⟨o,s,rfl⟩:=k5b hb
 cases s with
 | none=>exact ⟨h.far rfl,h.lt rfl⟩
 | some s=>
  rcases h.1.2 with ⟨e',_⟩ | ⟨g,cap,cur,e',h1,_⟩
  . injection e' with e1
    cases e1
  injection e' with e1
  cases e1
theorem copy14 {L:DgL} {d:Nd.Dia} (h:DgRd w L d.sizes d.order d.ends d.nodes) (hn:NilD L) (hz:d.sizes.length<=1000000) (hol:d.order.length<=1000000) (hel:d.ends.length<=1000000) (hnl:d.nodes.length<=1000000) (hkl:∀ q ∈ d.nodes,q.2.length<=1000000) :
    Calls prog 38 #[dgV L d.sizes.length d.order.length d.ends.length d.nodes.length d.root] w (b4b w d):=by
  have IZ:=hZ (fun W (hE:Ext w W)=>b2a (h.s.ext hE) hn.zs hz);have IO:=hZ (fun W (hE:Ext w W)=>b2a (h.o.ext hE) hn.os hol);have IE:=hZ (fun W (hE:Ext w W)=>D0b (h.e.ext hE) hn.es hel);have H:=hZ h;have HNK:=hZ hn.ks;have HKL:=hZ hkl;have l4:=h.n.le;have c4:=h.n.cap;rw [A7a h.kl] at l4;obtain ⟨n1,h1⟩:∃ n,d.sizes.length=n:=⟨_,rfl⟩
  obtain ⟨n2,h2⟩:∃ n,d.order.length=n:=⟨_,rfl⟩
  obtain ⟨n3,h3⟩:∃ n,d.ends.length=n:=⟨_,rfl⟩
  obtain ⟨n4,h4⟩:∃ n,d.nodes.length=n:=⟨_,rfl⟩
  obtain ⟨rt,h5⟩:∃ n,d.root=n:=⟨_,rfl⟩
  have HQ:=hZ (show d.sizes.length=n1/\d.order.length=n2/\d.ends.length=n3/\d.nodes.length=n4/\d.root=rt from ⟨h1,h2,h3,h4,h5⟩);rw [h1] at IZ;rw [h2] at IO;rw [h3] at IE;rw [h1,h2,h3,h4,h5];rw [h4] at l4 hnl;clear h hn hz hol hel hkl h1 h2 h3 h4 h5;obtain ⟨ps,cs,po,co,pe,ce,pn,cn,K⟩:=L;unfold dgV DgL.cells;simp only at *;have mixed:prog.follows .mixedOrders=true:=by kernel_rfl
  go_enter func38,ntmps38;go_upto_region 1 with fail
  refine B0a (F:=fun W=>Hid (Ext w W)/\W.cell? ⟨w.heap.size,0,none⟩=some (.slice ps n1 cs)/\W.cell? ⟨w.heap.size,1,none⟩=some (.slice po n2 co)/\W.cell? ⟨w.heap.size,2,none⟩=some (.slice pe n3 ce)/\W.cell? ⟨w.heap.size,3,none⟩=some (.slice pn n4 cn)/\W.cell? ⟨w.heap.size,4,none⟩=some (.int .i64 rt)/\Hid (Own5 W (w.heap.size+1) (.slice none 0 0) (.slice none 0 0) (.slice none 0 0) (.slice none 0 0) (.int .i64 0))) ⟨hZ (exx),by go_simp,by go_simp,by go_simp,by go_simp,by go_simp,hZ ⟨by go_simp,by go_simp,by go_simp,by go_simp,by go_simp,fun o=>by go_simp⟩⟩ ?_;intro w1 ⟨E1,g0,g1,g2,g3,g4,OR⟩;generalize hgr:w.heap.size+1=gr at OR ⊢;have GR:=hZ (show w.heap.size<=gr from by omega);clear hgr;generalize w.heap.size=gd at g0 g1 g2 g3 g4 ⊢;have zg:=cell_lt g0;have PR89:=hZ (fun (ww:World) (hSw:Ext w1 ww)=>And.intro (hSw.q g0) (And.intro (hSw.q g1) (And.intro (hSw.q g2) (hSw.q g4))));refine wp_region_held_drew (S:=fun W=>Ext w1 W) (by kernel_rfl) ?_ (fun hS=>?_)
  . exact exx
  skip
  refine' wpAnyH_take (i:=0) (v:=?v0_2193) rfl (by kernel_rfl) (by kernel_rfl) (by kernel_rfl) (fun _ _ _ h=>h) (Or.inl ⟨by rfl, ?hy0_2193⟩) (by assumption) ?rest0_2193
  case hy0_2193=>(intro w q;obtain ⟨g0',g1',g2',g4'⟩:=PR89.out w q;go_simp;try with_reducible rfl)
  refine layy ?_;refine' wpAnyH_take (i:=1) (v:=?v1_2194) rfl (by kernel_rfl) (by kernel_rfl) (by kernel_rfl) (fun _ _ _ h=>h) (Or.inl ⟨by rfl, ?hy1_2194⟩) (by assumption) ?rest1_2194
  case hy1_2194=>(intro w q;obtain ⟨g0',g1',g2',g4'⟩:=PR89.out w q;go_simp;try with_reducible rfl)
  refine layy ?_;refine' wpAnyH_take (i:=3) (v:=?v3_2195) rfl (by kernel_rfl) (by kernel_rfl) (by kernel_rfl) (fun _ _ _ h=>h) (Or.inl ⟨by rfl, ?hy3_2195⟩) (by assumption) ?rest3_2195
  case hy3_2195=>(intro w q;obtain ⟨g0',g1',g2',g4'⟩:=PR89.out w q;go_simp;try with_reducible rfl)
  refine layy ?_;refine' wpAnyH_take (i:=4) (v:=?v4_2196) rfl (by kernel_rfl) (by kernel_rfl) (by kernel_rfl) (fun _ _ _ h=>h) (Or.inl ⟨by rfl, ?hy4_2196⟩) (by assumption) ?rest4_2196
  case hy4_2196=>(intro w q;obtain ⟨g0',g1',g2',g4'⟩:=PR89.out w q;go_simp;try with_reducible rfl)
  refine layy ?_;refine' wpAnyH_take (i:=6) (v:=?v6_2197) rfl (by kernel_rfl) (by kernel_rfl) (by kernel_rfl) (fun _ _ _ h=>h) (Or.inl ⟨by rfl, ?hy6_2197⟩) (by assumption) ?rest6_2197
  case hy6_2197=>(intro w q;obtain ⟨g0',g1',g2',g4'⟩:=PR89.out w q;go_simp;try with_reducible rfl)
  refine layy ?_;refine' wpAnyH_take (i:=7) (v:=?v7_2198) rfl (by kernel_rfl) (by kernel_rfl) (by kernel_rfl) (fun _ _ _ h=>h) (Or.inl ⟨by rfl, ?hy7_2198⟩) (by assumption) ?rest7_2198
  case hy7_2198=>(intro w q;obtain ⟨g0',g1',g2',g4'⟩:=PR89.out w q;go_simp;try with_reducible rfl)
  refine layy ?_;refine' wpAnyH_take (i:=9) (v:=?v9_2199) rfl (by kernel_rfl) (by kernel_rfl) (by kernel_rfl) (fun _ _ _ h=>h) (Or.inl ⟨by rfl, ?hy9_2199⟩) (by assumption) ?rest9_2199
  case hy9_2199=>(intro w q;obtain ⟨g0',g1',g2',g4'⟩:=PR89.out w q;go_simp;try with_reducible rfl)
  refine layy ?_;refine' wpAnyH_take (i:=10) (v:=?v10_2200) rfl (by kernel_rfl) (by kernel_rfl) (by kernel_rfl) (fun _ _ _ h=>h) (Or.inl ⟨by rfl, ?hy10_2200⟩) (by assumption) ?rest10_2200
  case hy10_2200=>(intro w q;obtain ⟨g0',g1',g2',g4'⟩:=PR89.out w q;go_simp;try with_reducible rfl)
  refine layy ?_;refine T2a [2,5,8,11,12,13] [7,10,13,16,3] (fun L vs W=>∃ v1 v2 v3 v4 v5:Value,vs=[v1,v2,v3,v4,v5]/\Ext w1 W/\CpK w1 d.sizes d.order d.ends (.int .i64 rt) L W v1 v2 v3 v4 v5) (by kernel_rfl) (by kernel_rfl) ?h0 ?hsteps ?hend
  case h0=>exact ⟨_,_,_,_,_,rfl,hS,⟨hS,fun h=>(by cases h),fun h=>(by cases h),fun h=>(by cases h),fun h=>(by cases h),fun h=>(by cases h),fun h=>(by cases h),fun h=>(by cases h),fun h=>(by cases h),fun h=>(by cases h)⟩⟩
  case hsteps=>
   refine B2a.cons rfl ?_ (B2a.cons rfl ?_ (B2a.cons rfl ?_ (B2a.cons rfl ?_ (B2a.cons rfl ?_ (B2a.cons rfl ?_ B2a.nil)))))
   all_goals (try simp only [u2b,s3b,s4b])
   all_goals
    rintro L a w ⟨vs,ha,v1,v2,v3,v4,v5,rfl,hE,J⟩ hL hC;obtain rfl:=ha;intro K' hK
    (try simp only [T9a,Act.put,q2b,w6b,w7b])
   . go_simp
     go_at_call 103
     refine (IZ.out _ (E1.out.trans hE)).mono ?_;rintro e x ⟨p2,c2,rfl,hR2,y,-⟩
     go_wp2_with fail
     exact hK.out _ _ (hE.trans y) ⟨[_,v2,v3,v4,v5],rfl,_,_,_,_,_,rfl,hE.trans y,J.step2 hL y hR2.at_ hR2.frs⟩
   . go_simp
     go_at_call 103
     refine (IO.out _ (E1.out.trans hE)).mono ?_;rintro e x ⟨p2,c2,rfl,hR2,y,h0⟩
     go_wp2_with fail
     exact hK.out _ _ (hE.trans y) ⟨[v1,_,v3,v4,v5],rfl,_,_,_,_,_,rfl,hE.trans y,J.step5 hL y hR2.at_ h0 hR2.frs⟩
   . go_simp
     go_at_call 104
     refine (IE.out _ (E1.out.trans hE)).mono ?_;rintro e x ⟨p2,c2,rfl,hR2,y,hf⟩
     go_wp2_with fail
     exact hK.out _ _ (hE.trans y) ⟨[v1,v2,_,v4,v5],rfl,_,_,_,_,_,rfl,hE.trans y,J.W8b hL y hR2 hf⟩
   . have h2:L 2=true:=hC ⟨2,.data⟩ (by simp) rfl;have h5:L 5=true:=hC ⟨5,.data⟩ (by simp) rfl;have h8:L 8=true:=hC ⟨8,.data⟩ (by simp) rfl;have J':=J.u0a hL h2 h5 h8;obtain ⟨⟨p2,c2,rfl,-⟩,-⟩:=J.sz h2;obtain ⟨⟨p3,c3,rfl,-⟩,-⟩:=J.so h5;obtain ⟨⟨p4,c4,rfl,-⟩,-⟩:=J.se h8;go_simp;exact hK.out _ _ hE ⟨[_,_,_,_,v5],rfl,_,_,_,_,_,rfl,hE,J'⟩
   . go_simp;exact hK.out _ _ (hE.alloc _) ⟨[v1,v2,v3,v4,.pointer (some ⟨w.heap.size,0,none⟩)],rfl,_,_,_,_,_,rfl,hE.alloc _,J.R4b hL _⟩
   have h11:L 11=true:=hC ⟨11,.data⟩ (by simp) rfl;have h12:L 12=true:=hC ⟨12,.data⟩ (by simp) rfl;obtain ⟨⟨g,d0,d1,d2,d3,d4,rfl,ow,-⟩,-⟩:=J.x h12;obtain ⟨J',EJ⟩:=J.step13 h11 h12;obtain ⟨h2,h5,h8,rfl⟩:=J.b h11;obtain ⟨⟨p2,c2,rfl,-⟩,-⟩:=J.sz h2;obtain ⟨⟨p3,c3,rfl,-⟩,-⟩:=J.so h5;obtain ⟨⟨p4,c4,rfl,-⟩,-⟩:=J.se h8;obtain ⟨o0,o1,o2,o3,o4,oz⟩:=ow;go_simp;exact hK.out _ _ EJ ⟨[_,_,_,_,_],rfl,_,_,_,_,_,rfl,EJ,J'⟩
  rintro LL _ w9 ⟨v1,v2,v3,v4,v5,rfl,E9,J⟩ hall;have j2:=hall 2 (by simp);have j5:=hall 5 (by simp);have j8:=hall 8 (by simp);have j12:=hall 12 (by simp);have j13:=hall 13 (by simp);have zx:=J.zx j2 j12;have ox:=J.ox j5 j12;have ex:=J.ex j8 j12;obtain ⟨⟨p2,c2,rfl,s2⟩,f2⟩:=J.sz j2;obtain ⟨⟨p3,c3,rfl,s3,on3⟩,f3⟩:=J.so j5;obtain ⟨⟨p4,c4',rfl,s4⟩,f4⟩:=J.se j8;obtain ⟨⟨gO,d0,d1,d2,d3,d4,rfl,ow,oe⟩,fx⟩:=J.x j12;obtain ⟨rfl,rfl,rfl,rfl,rfl⟩:=oe j13;have EE:=E1.out.trans E9;have C0:=hZ (show CpSt w1 w9 d gO p2 c2 p3 c3 p4 c4' 0 none 0 [] from by
   have l1:=E1.out.le
   exact
    { ext:=E9
      o5:=by rw [HQ.out.2.2.2.2];exact ow
      s2:=s2
      s3:=s3
      er:=s4
      nr:=by simpa using RowN.nil w9 2 41
      kl:=rfl
      jl:=G9c _
      ks:=fun i q k hq _=>by simp at hq
      lo:=fun b hb=>by
       rcases hb with rfl | hb | hb | hb | hb | hb
       . have h1:=fx b (by simp [vb2]);have h2:=cell_lt ow.a0;omega
       . have:=f2 b hb;omega
       . have:=f3 b hb;omega
       . have:=f4 b hb;omega
       . simp [blk] at hb
       simp [kblk] at hb
      ng:=⟨fun hm=>zx gO hm (by simp [vb2]),fun hm=>ox gO hm (by simp [vb2]),fun hm=>ex gO hm (by simp [vb2]),by simp [blk],by simp [kblk]⟩
      np:=fun b hb=>by simp [blk] at hb })
  have OR9:=hZ (OR.out.ext E9);have GD:=hZ (show w9.cell? ⟨gd,3,none⟩=some (.slice pn n4 cn) from E9.q g3);have HON:=hZ on3;have GDL:=hZ zg;have NG:=hZ (show gr < w1.heap.size/\w1.heap.size<=gO from ⟨cell_lt OR.out.a0,fx gO (by simp [vb2])⟩);clear J hall zx ox ex s2 f2 s3 on3 f3 s4 f4 ow oe fx j2 j5 j8 j12 j13 EE E9 OR g0 g1 g2 g3 g4 zg hS;simp only [T9a,Act.put,q2b,w6b,w7b]
  go_wp2_with fail
  go_loopg [4] n4 (fun g' iv wr=>∃ (j:Nat) (qn:Option Addr) (qc:Nat) (KK:List (Option Addr × Nat)),j<=n4/\n4-j<=g'/\iv = .int .i64 j/\Hid (CpSt w1 wr d gO p2 c2 p3 c3 p4 c4' j qn qc KK)/\Hid (Own5 wr gr (.slice none 0 0) (.slice none 0 0) (.slice none 0 0) (.slice none 0 0) (.int .i64 0))/\Hid (wr.cell? ⟨gd,3,none⟩=some (.slice pn n4 cn)))
  case atStart=>exact ⟨0,none,0,[],G9c _,by omega,rfl,C0,OR9,GD⟩
  case round=>
   obtain ⟨j,qn,qc,KK,hj,hg,rfl,C,OR,G⟩:=hrel;clear C0 OR9 GD;have g3:=G.out
   by_cases hlt:j < n4
   . have tk:decide ((j:Int) < (n4:Int))=true:=dT;obtain ⟨q,hq⟩:=A5a (E:=d.nodes) (j:=j) (by rw [HQ.out.2.2.2.1];exact hlt);obtain ⟨⟨kp,kc⟩,hkk⟩:=A5a (E:=K) (j:=j) (by have:=H.out.kl;simp only at this;rw [this,HQ.out.2.2.2.1];exact hlt);obtain ⟨bn,on,hpn,hbn,hcn⟩:=(H.out.ext E1.out).node_cells (by rw [HQ.out.2.2.2.1];omega);simp only at hpn;subst hpn;obtain ⟨q1,q2⟩:=hcn j q _ hq hkk;have q1:=C.out.ext.q q1;have q2:=C.out.ext.q q2;have HBN:=hZ hbn;have IK:=hZ (fun W (hE:Ext wr W)=>b2a ((H.out.ks j q _ hq hkk).ext ((E1.out.trans C.out.ext).trans hE)) (HNK.out (kp,kc) (u1b hkk)) (HKL.out q (u1b hq)));have HQJ:=hZ hq;have o3:=C.out.o5.a3;have z3:=C.out.o5.z 3;obtain ⟨v,ks⟩:=q;simp only at q1 q2 IK;obtain ⟨nk,hnk⟩:∃ n,ks.length=n:=⟨_,rfl⟩
     have HK:=hZ hnk;rw [hnk] at q2 IK;clear hcn hq hkk hnk hbn;have GO:=hZ (show gO < wr.heap.size from cell_lt o3)
     go_wp2_with fail
     refine wp_region_any (by kernel_rfl) ?_;refine B3a (S:=(fun W:World=>W.cell? ⟨gd,3,none⟩=some (.slice (some ⟨bn,on,none⟩) n4 cn)/\W.cell? ⟨bn,on+j * 2,none⟩=some (.int .i64 v)/\W.cell? ⟨bn,on+j * 2+1,none⟩=some (.slice kp nk kc)/\W.cell? ⟨gO,3,none⟩=some (.slice qn j qc))) (R:=Eq) 19 19 (fun _=>rfl) (by exact ⟨g3,q1,q2,o3⟩) ?_ (by rfl);refine' tkF 0 ?_;refine' tkF 1 ?_ (hy:=by intro w hSw;(obtain ⟨s1,s2,s3,s4⟩:=hSw);go_simp;try with_reducible rfl);refine' tkF 2 ?_;refine' tkF 3 ?_ (hy:=by intro w hSw;(obtain ⟨s1,s2,s3,s4⟩:=hSw);go_simp;try with_reducible rfl);refine' tkF 4 ?_;refine' tkF 5 ?_;refine' tkF 6 ?_;refine' tkF 7 ?_ (hy:=by intro w hSw;(obtain ⟨s1,s2,s3,s4⟩:=hSw);go_simp;try with_reducible rfl);refine' tkF 8 ?_;refine' tkF 9 ?_ (hy:=by intro w hSw;(obtain ⟨s1,s2,s3,s4⟩:=hSw);go_simp;try with_reducible rfl);refine' tkF 10 ?_;refine' tkF 11 ?_;refine' tkF 12 ?_;refine' tkF 13 ?_ (hy:=by intro w hSw;(obtain ⟨s1,s2,s3,s4⟩:=hSw);go_simp;try with_reducible rfl);have W1:=hZ (show Ext wr (World.drew wr) from Ext.drew (Ext.refl wr));change E0a _ _ _ _ _ _ _ _ _ _ _ (World.drew wr);generalize World.drew wr=wd at W1 ⊢;refine H6a [14] (by kernel_rfl) (by simp) (by simp) ?_;intro i14 hi14;obtain rfl:i14=14:=by simpa using hi14
     refine V0b (i:=14) (f:=103) (args:=#[.slice kp nk kc]) rfl (by rfl) (by go_simp) ?_;refine (IK.out wd W1.out).mono ?_;rintro e w2 ⟨p0,c0,rfl,hR0,hE0,-⟩;have W2:=hZ (W1.out.trans hE0);have SK0:=hZ hR0.at_;have FR0:=hZ (show ∀ b ∈ blk p0,wr.heap.size<=b/\b < w2.heap.size from fun b hb=>by have:=hR0.frs b hb;have:=W1.out.le;omega);have g32:=W2.out.q g3;have q12:=W2.out.q q1;have q22:=W2.out.q q2;have o32:=W2.out.q o3;refine ⟨_,rfl,⟨g32,q12,q22,o32⟩, ?_⟩;clear hR0 hE0;refine layy ?_;rw [HK.out]
     skip
     refine' tkF 15 ?_;refine H6a [16] (by kernel_rfl) (by simp) (by simp) ?_;intro i16 hi16;obtain rfl:i16=16:=by simpa using hi16
     have A3:Ext w2 (w2.alloc (.cells #[.int .i64 v,.slice p0 nk c0] 41)):=Ext.alloc (Ext.refl w2) _;have e0:(w2.alloc (.cells #[.int .i64 v,.slice p0 nk c0] 41)).cell? ⟨w2.heap.size,0,none⟩=some (.int .i64 v):=by go_simp
     have e1:(w2.alloc (.cells #[.int .i64 v,.slice p0 nk c0] 41)).cell? ⟨w2.heap.size,1,none⟩=some (.slice p0 nk c0):=by go_simp
     refine c4a (i:=16) (v:=.slice (some ⟨w2.heap.size,0,none⟩) 1 1) (w'':=w2.alloc (.cells #[.int .i64 v,.slice p0 nk c0] 41)) rfl (by rfl) (by go_simp) ⟨⟨A3.q g32,A3.q q12,A3.q q22,A3.q o32⟩, ?_⟩;refine layy ?_;have g33:=A3.q g32;have q13:=A3.q q12;have q23:=A3.q q22;have o33:=A3.q o32;have W3:=hZ (W2.out.trans A3);have SK3:=hZ (SK0.out.ext A3);have FR3:=hZ (show ∀ b ∈ blk p0,wr.heap.size<=b/\b < (w2.alloc (.cells #[.int .i64 v,.slice p0 nk c0] 41)).heap.size from fun b hb=>⟨(FR0.out b hb).1,x4b (FR0.out b hb).2 A3.le⟩);clear g32 q12 q22 o32 A3 SK0 FR0 W1 W2;generalize w2.heap.size=gt at e0 e1 ⊢;generalize w2.alloc (.cells #[.int .i64 v,.slice p0 nk c0] 41)=w3 at *;refine H6a [17] (by kernel_rfl) (by simp) (by simp) ?_;intro i17 hi17;obtain rfl:i17=17:=by simpa using hi17
     have hjl:j<=d.nodes.length:=by rw [HQ.out.2.2.2.1];omega
     refine Q6a (i:=17) (.tmp 25) (.tmp 40) 47 41 rfl rfl (by rfl) (z:=.agg #[.int .i64 0,.slice none 0 0]) (n:=2) (bytes:=32) underlying47 (by kernel_rfl) rfl (by decide) (by decide) (m:=j) (by rw [v6b,C.out.kl,A3c,D1c hjl,G6c]) rfl rfl (C.out.nr.ext W3.out) (y:=[.int .i64 v,.slice p0 nk c0]) rfl (cells2 e0 e1) (by simp [Value.oneCell']) (by omega) ?_;intro g cap w4 row hR hG hrow hg' hlt';have CG:=hZ (C.out.grow W3.out (q:=(v,ks)) HQJ.out SK3.out FR3.out (by rw [show S4a (v,ks) (p0,c0)=[.int .i64 v,.slice p0 nk c0] by simp [S4a,HK.out]];exact hR) hG hrow hg' hlt');have k4:But (blk qn) w3 w4:=⟨hG.os,hG.tape,hG.output,hG.size,fun i hi hn=>hG.block i hi fun e=>hn (by rw [hrow i e.symm];simp [blk])⟩
     have nq:∀ b,b < w1.heap.size->b ∉ blk qn:=fun b h2 hm=>by
      have h3:=(C.out.lo b (.inr (.inr (.inr (.inr (.inl hm)))))).1;omega
     have g34:=(k4.cell (cell_lt g33) (nq _ GDL.out) 3).trans g33;have q14:=(k4.cell (cell_lt q13) (nq _ HBN.out) (on+j * 2)).trans q13;have q24:=(k4.cell (cell_lt q13) (nq _ HBN.out) (on+j * 2+1)).trans q23;have o34:=(k4.cell (cell_lt o33) C.out.ng.2.2.2.1 3).trans o33;have z34:=(k4.frozen (cell_lt o33) C.out.ng.2.2.2.1 3).trans ((W3.out.frozen GO.out 3).trans z3);have K5:=hZ (show But (gO :: blk qn) w3 (w4.setCell ⟨gO,3,none⟩ (.slice (some ⟨g,0,none⟩) (j+1) cap)) from (k4.mono (l':=gO :: blk qn) (fun x hx=>by simp [hx])).trans (((But.refl [gO] w4).setCell (.inl (by simp)) _).mono (l':=gO :: blk qn) (fun x hx=>by rw [w8b.1 hx];simp)));have NQ:=hZ nq;refine ⟨⟨g34,q14,q24,o34⟩, ?_⟩;refine layy ?_;clear hR hG hrow hg' hlt' g33 q13 q23 o33 e0 e1 k4 nq hjl
     skip
     refine' tkF 18 ?_;refine A9a (by kernel_rfl) ?_;intro w9 e9 _;subst e9;simp only [v0b,D9c];have O6:=hZ (OR.out.ext W3.out |>.but K5.out (fun hm=>by
      rcases E6c.1 hm with e | hm
      . have:=NG.out;omega
      . exact NQ.out _ NG.out.1 hm))
     have G6:=hZ (((K5.out.cell (x4b (cell_lt g3) W3.out.le) (fun hm=>by
      rcases E6c.1 hm with e | hm
      . have:=GDL.out;have:=NG.out;omega
      . exact NQ.out _ GDL.out hm) 3).trans (W3.out.cell (cell_lt g3) 3)).trans g3)
     clear C OR G g3
     go_wp2_with fail
     go_roundg (n4-(j+1))
     case measure=>omega
     case rel=>exact ⟨j+1,some ⟨g,0,none⟩,cap,KK ++ [(p0,c0)],by omega,H0c _,by go_num,CG,O6,G6⟩
   have:j=n4:=by omega
   subst this;have tk:decide ((j:Int) < (j:Int))=false:=dF;obtain ⟨a0,a1,a2,a3,a4,az⟩:=C.out.o5;rw [HQ.out.1] at a0;rw [HQ.out.2.1] at a1;rw [HQ.out.2.2.1] at a2;rw [HQ.out.2.2.2.2] at a4;obtain ⟨b0,b1,b2,b3,b4,bz⟩:=OR.out;have O6:=hZ (Own5.set (d0:=.slice p2 n1 c2) (d1:=.slice p3 n2 c3) (d2:=.slice p4 n3 c4') (d3:=.slice qn j qc) (d4:=.int .i64 rt) OR.out);have K6:=hZ (show But [gr] wr (((((wr.setCell ⟨gr,0,none⟩ (.slice p2 n1 c2)).setCell ⟨gr,1,none⟩ (.slice p3 n2 c3)).setCell ⟨gr,2,none⟩ (.slice p4 n3 c4')).setCell ⟨gr,3,none⟩ (.slice qn j qc)).setCell ⟨gr,4,none⟩ (.int .i64 rt)) from (((((But.refl _ _).setCell (.inl (by simp)) _).setCell (.inl (by simp)) _).setCell (.inl (by simp)) _).setCell (.inl (by simp)) _).setCell (.inl (by simp)) _)
   go_wp2_with fail
   clear a0 a1 a2 a3 a4 az b0 b1 b2 b3 b4 bz;obtain ⟨a0,a1,a2,a3,a4,-⟩:=O6.out;refine bodyPost_ret (v:=.agg #[.slice p2 n1 c2,.slice p3 n2 c3,.slice p4 n3 c4',.slice qn j qc,.int .i64 rt]) (by simp [results,results38,go_sem, *]) rfl ?_;have ht:d.nodes.take j=d.nodes:=s6b (by rw [HQ.out.2.2.2.1];exact H0c _);have hnr:=C.out.nr.rd;have hks:=C.out.ks;rw [ht] at hnr hks;have D5:DgRd wr ⟨p2,c2,p3,c3,p4,c4',qn,qc,KK⟩ d.sizes d.order d.ends d.nodes:=⟨C.out.s2,C.out.s3,C.out.er,hnr,by rw [HQ.out.2.2.2.1];exact C.out.kl,hks⟩
   have LB:∀ b ∈ (⟨p2,c2,p3,c3,p4,c4',qn,qc,KK⟩:DgL).blocks,w1.heap.size<=b/\b < wr.heap.size:=fun b hb=>C.out.lo b (by
    simp only [DgL.blocks,C4c] at hb
    rcases hb with (((hb | hb) | hb) | hb) | hb
    . exact .inr (.inl hb)
    . exact .inr (.inr (.inl hb))
    . exact .inr (.inr (.inr (.inl hb)))
    . exact .inr (.inr (.inr (.inr (.inl hb))))
    . exact .inr (.inr (.inr (.inr (.inr hb)))))
   have D6:=D5.but K6.out (fun b hb hm=>by
    have:=(LB b hm).1;have:=NG.out;rw [w8b.1 hb] at *;omega)
   refine ⟨_, ?_,D6,K6.out.D3a (E1.out.trans C.out.ext) (fun b hb=>by rw [w8b.1 hb];exact GR.out),fun b hb=>?_,HON.out⟩
   . rw [HQ.out.1,HQ.out.2.1,HQ.out.2.2.1,HQ.out.2.2.2.1,HQ.out.2.2.2.2];rfl
   have h1:=LB b hb;have h2:=E1.out.le;have h3:=K6.out.size;omega
structure r2a (w:World) (L:DgL) (d:Nd.Dia):Prop where
 rd:DgRd w L d.sizes d.order d.ends d.nodes
 nil:NilD L
 f:∀ v ∈ d.ends,(0<=v.1/\v.1<=255) /\ -9223372036854775808<=v.2/\v.2<=9223372036854775807
 vars:∀ q ∈ d.nodes,-9223372036854775808<=q.1/\q.1<=9223372036854775807
 kids:∀ q ∈ d.nodes,∀ k ∈ q.2,-9223372036854775808<=k/\k<=9223372036854775807
 root : -9223372036854775808<=d.root/\d.root<=9223372036854775807
theorem r2a.ext {L:DgL} {d:Nd.Dia} (h:r2a w L d) (k:Ext w w'):r2a w' L d:={ h with rd:=h.rd.ext k }
theorem X0a {d:Nd.Dia} (h:x8a d=true):d.sizes.length<=8/\d.order.length<=8/\d.ends.length<=40/\d.nodes.length<=60 /\ ∀ q ∈ d.nodes,q.2.length<=14:=by
 unfold x8a Hp.c6a at h
 simp only [B8c,A1c,A7c] at h
 obtain ⟨⟨h1,h2,_⟩,h3,h4,h5⟩:=h
 exact ⟨h1,h2,h3,h4,h5⟩
theorem r2a.num {L:DgL} {d:Nd.Dia} (h:r2a w L d) (ht:x8a d=true):q7a d:=by
 obtain ⟨_,_,h3,h4,_⟩:=X0a ht
 exact ⟨fun v hv=>(h.f v hv).1.1,by omega,by omega,h.kids,h.root⟩
theorem r2a.numN {L M:DgL} {d:Nd.Dia} (h:r2a w L d) (ht:x8a d=true) (on:0 < d.order.length \/ M.po=none):W4a d M:=by
 obtain ⟨_,h2,h3,h4,_⟩:=X0a ht
 exact ⟨h.num ht,by omega,by omega,by omega,on,fun v hv=>(h.f v hv).2,h.vars⟩
theorem X5b {d:Nd.Dia} (hg:Hp.Good S B) (hf:∀ v ∈ d.ends,0<=v.1):∃ x e S',Nd.put d S=some (x,e,S')/\Hp.Good S' B/\Hp.Grown S S':=by
 obtain ⟨e1,A,S1,h1,g1,k1,-⟩:=Nd.x2a d.ends S [] hg hf
 by_cases h0:e1=0
 . obtain ⟨e2,N,S2,h2,g2,k2,-⟩:=Nd.w5a (A:=A) d.nodes S1 [] g1
   by_cases h3:e2=0
   . exact ⟨Nd.toA A N d.root,0,S2,by simp [Nd.put,h1,h0,h2,h3],g2,k1.trans k2⟩
   exact ⟨0,e2,S2,by simp [Nd.put,h1,h0,h2,h3],g2,k1.trans k2⟩
 exact ⟨0,e1,S1,by simp [Nd.put,h1,h0],g1,k1⟩
theorem V6b {d:Nd.Dia} (hg:Hp.Good S B) (hsm:S.words.length<=1000000) (hn:q7a d) (hN:∀ M:DgL,(0 < d.order.length \/ M.po=none)->W4a d M):∃ x e S',S'.words.length=S.words.length /\
    (∀ w hd (M:DgL),HAt w hd S->DgRd w M d.sizes d.order d.ends d.nodes->(0 < d.order.length \/ M.po=none)->(∀ b ∈ M.blocks,b < w.heap.size/\b ∉ hd.own)->Calls prog 37 #[.pointer (some ⟨hd.hb,0,none⟩),dgV M d.sizes.length d.order.length d.ends.length d.nodes.length d.root] w (s0a w hd x e S')) /\
    (∀ w r (L:DgL),RW w r S->(∀ W,But r.own w W->DgRd W L d.sizes d.order d.ends d.nodes)->Calls prog 48 #[.pointer (some ⟨r.rb,0,none⟩),dgV L d.sizes.length d.order.length d.ends.length d.nodes.length d.root] w (C9a r w (.tuple #[.int .i64 x,.int .i64 e]) S')):=by
  by_cases hc:E8a d=0
  . by_cases hf:d.sizes=S.sizes/\d.order=S.order
    . obtain ⟨x,e,S',hp,hg',hk⟩:=X5b (d:=d) hg hn.f;exact ⟨x,e,S',hk.len,fun w hd M hA hM on hb=>d8b hA hM (hN M on) hc hf.1 hf.2 hg hb hp,fun w r L hR hL=>S8b (L2:=⟨none,0,none,0,none,0,none,0,[]⟩) hR (hL _ (But.refl _ _)) (hN _ (.inr rfl)) hc hf.1 hf.2 hg hsm hL hp⟩
    exact ⟨0,2,S,rfl,fun w hd M hA hM on _=>m0b hA hM (hN M on) hc hf,fun w r L hR hL=>c8b hR (hL _ (But.refl _ _)) hn hc hf⟩
  exact ⟨0,E8a d,S,rfl,fun w hd M hA hM on _=>k1b hA hM (hN M on) hc,fun w r L hR hL=>a3b hR (hL _ (But.refl _ _)) hn hc⟩
theorem heapPuts {sp op:Option Addr} {sc oc:Nat} {n:Int} {acts:List Hp.Act'} {L:DgL} {d:Nd.Dia} (h:SAt w sp sc op oc pa ca z o acts) (hd:r2a w L d) :
    Calls prog 8 #[.agg #[.slice sp z.length sc,.slice op o.length oc,.int .i64 n,.slice pa acts.length ca],dgV L d.sizes.length d.order.length d.ends.length d.nodes.length d.root] w (Rt w (.bool true)):=by
  have H:=hZ h;have HD:=hZ hd;have TH:=hZ (fun W (hE:Ext w W)=>lThin (n:=n) (h.ext hE));have TD:=hZ (fun W (hE:Ext w W)=>thin14 (hd.ext hE).rd);have FT:=hZ (fun W (hE:Ext w W)=>lFault (n:=n) (h.ext hE).sizes (h.ext hE).order);obtain ⟨fe,hfe⟩:∃ fe,Hp.G1a z o n=fe:=⟨_,rfl⟩
  rw [hfe] at FT
  cases ht:Hp.q9a z o n acts with
  | false=>
   rw [ht] at TH;clear h hd ht H HD hfe FT TD;generalize d.sizes.length=n1 at *;generalize d.order.length=n2 at *;generalize d.ends.length=n3 at *;generalize d.nodes.length=n4 at *;generalize d.root=rt at *;unfold dgV DgL.cells at *;go_enter func8,ntmps8
   go_wp2_with (first
    | (go_at_call 14;refine m4_ (TH.out _ (exx)) fun w1 hb1 hc1 hf1 hs1=>?_;obtain ⟨hz1_0,hc1_0,hf1_0⟩:=c3_ hb1 w.heap.size)
    | (go_at_call 15;refine (Z2a _).mono ?_;rintro e w2 ⟨rfl,hb2⟩))
   go_returns;exact ⟨rfl,exx⟩
  | true=>
   rw [ht] at TH
   cases htd:x8a d with
   | false=>
    rw [htd] at TD;clear h hd ht htd H HD hfe FT;generalize d.sizes.length=n1 at *;generalize d.order.length=n2 at *;generalize d.ends.length=n3 at *;generalize d.nodes.length=n4 at *;generalize d.root=rt at *;unfold dgV DgL.cells at *;go_enter func8,ntmps8
    go_wp2_with (first
     | (go_at_call 14;refine m4_ (TH.out _ (exx)) fun w1 hb1 hc1 hf1 hs1=>?_;obtain ⟨hz1_0,hc1_0,hf1_0⟩:=c3_ hb1 w.heap.size)
     | (go_at_call 34;refine m4_ (TD.out _ (exx)) fun w2 hb2 hc2 hf2 hs2=>?_;obtain ⟨hz2_0,hc2_0,hf2_0⟩:=c3_ hb2 w.heap.size)
     | (go_at_call 15;refine (Z2a _).mono ?_;rintro e w3 ⟨rfl,hb3⟩))
    go_returns;exact ⟨rfl,exx⟩
   | true=>
    rw [htd] at TD
    by_cases hf0:fe=0
    case neg=>
     have t0:(fe != 0)=true:=by simpa using hf0
     clear h hd ht htd H HD hfe hf0;generalize d.sizes.length=n1 at *;generalize d.order.length=n2 at *;generalize d.ends.length=n3 at *;generalize d.nodes.length=n4 at *;generalize d.root=rt at *;unfold dgV DgL.cells at *;go_enter func8,ntmps8
     go_wp2_with (first
      | (go_at_call 14;refine m4_ (TH.out _ (exx)) fun w1 hb1 hc1 hf1 hs1=>?_;obtain ⟨hz1_0,hc1_0,hf1_0⟩:=c3_ hb1 w.heap.size)
      | (go_at_call 34;refine m4_ (TD.out _ (exx)) fun w2 hb2 hc2 hf2 hs2=>?_;obtain ⟨hz2_0,hc2_0,hf2_0⟩:=c3_ hb2 w.heap.size)
      | (go_at_call 18;refine m4_ (FT.out _ (exx)) fun w3 hb3 hc3 hf3 hs3=>?_;obtain ⟨hz3_0,hc3_0,hf3_0⟩:=c3_ hb3 w.heap.size)
      | (go_at_call 15;refine (Z2a _).mono ?_;rintro e w4 ⟨rfl,hb4⟩))
     go_returns;exact ⟨rfl,exx⟩
    case pos=>
     subst hf0;have hrB:Hp.I9b z o n acts=true:=by simp [Hp.I9b,ht,hfe]
     obtain ⟨k,rfl,hrd⟩:=Hp.f1b hrB;obtain ⟨S0,s',hS,hpl,hz,ho,hl,hg⟩:=hrd.plays h.acts.fault;obtain ⟨S0',hS',hz0,ho0,hl0,hw0⟩:=Hp.f7b hrd.fr (n:=k) (by have:=hrd.n1;omega) (by have:=hrd.n2;omega);rw [hS] at hS';obtain rfl:=D3c hS';have n1':=hrd.n1;have n2':=hrd.n2;have few:=hrd.few;have frl:=hrd.fr.few;have frn:=hrd.fr.len;have HR:=hZ hrd;have HS:=hZ hS;have HPL:=hZ hpl;have HZ:=hZ (show S0.sizes=z/\S0.order=o/\s'.S.sizes=z/\s'.S.order=o/\s'.S.words.length=k from ⟨hz0,ho0,hz,ho,hl⟩);have HG:=hZ (show Hp.Good S0 0 from ⟨_,_,hw0⟩);have HGS:=hZ hg;obtain ⟨x,er,S2,hS2,hPU,hPR⟩:=V6b (d:=d) hg (by omega) (hd.num htd) (fun M on=>hd.numN htd on);have HL2:=hZ (show S2.words.length=k from hS2.trans hl);obtain ⟨f1,f2,f3,f4,f5⟩:=X0a htd;have CP:=hZ (fun W (hE:Ext w W)=>show Calls prog 38 #[dgV L d.sizes.length d.order.length d.ends.length d.nodes.length d.root] W fun e w'=>∃ M:DgL,e = .returned (dgV M d.sizes.length d.order.length d.ends.length d.nodes.length d.root)/\DgRd w' M d.sizes d.order d.ends d.nodes/\Ext W w'/\(∀ b ∈ M.blocks,W.heap.size<=b/\b < w'.heap.size)/\(0 < d.order.length \/ M.po=none) from copy14 (hd.ext hE).rd hd.nil (by omega) (by omega) (by omega) (by omega) (fun q hq=>by have:=f5 q hq;omega));have PU:=hZ hPU;have PR:=hZ (fun W r (w0:World) (hA:RW W r s'.S) (hE0:Ext w w0) (hE:Ext w0 W) (hb:∀ b ∈ r.own,w0.heap.size<=b)=>hPR W r L hA (fun W' hB=>((hd.ext hE0).rd.ext (But.D3a hE hB hb))));have IZ:=hZ (fun W (hE:Ext w W)=>p2a (h.ext hE).sizes h.n1 (by omega));have IO:=hZ (fun W (hE:Ext w W)=>p2a (h.ext hE).order h.n2 (by omega));clear hrB hS hpl hz ho hl hg hS' hz0 ho0 hl0 hw0 hfe ht htd h hd hS2 hPU hPR f5 hrd frl frn;obtain ⟨n1,h1⟩:∃ n,d.sizes.length=n:=⟨_,rfl⟩
     obtain ⟨n2,h2⟩:∃ n,d.order.length=n:=⟨_,rfl⟩
     obtain ⟨n3,h3⟩:∃ n,d.ends.length=n:=⟨_,rfl⟩
     obtain ⟨n4,h4⟩:∃ n,d.nodes.length=n:=⟨_,rfl⟩
     obtain ⟨rt,h5⟩:∃ n,d.root=n:=⟨_,rfl⟩
     rw [h1,h2,h3,h4,h5] at TD CP PU PR ⊢;clear h1 h2 h3 h4 h5 f1 f2 f3 f4;unfold dgV DgL.cells at TD CP PU PR ⊢;have mixed:prog.follows .mixedOrders=true:=by kernel_rfl
     go_enter func8,ntmps8
     go_upto_region 3 with (first
      | (go_at_call 14;refine m4_ (TH.out _ (exx)) fun w1 hb1 hc1 hf1 hs1=>?_;obtain ⟨hz1_0,hc1_0,hf1_0⟩:=c3_ hb1 w.heap.size;obtain ⟨hz1_1,hc1_1,hf1_1⟩:=c3_ hb1 (w.heap.size+1))
      | (go_at_call 34;refine m4_ (TD.out _ (exx)) fun w2 hb2 hc2 hf2 hs2=>?_;obtain ⟨hz2_0,hc2_0,hf2_0⟩:=c3_ hb2 w.heap.size;obtain ⟨hz2_1,hc2_1,hf2_1⟩:=c3_ hb2 (w.heap.size+1))
      | (go_at_call 18;refine m4_ (FT.out _ (exx)) fun w3 hb3 hc3 hf3 hs3=>?_;obtain ⟨hz3_0,hc3_0,hf3_0⟩:=c3_ hb3 w.heap.size;obtain ⟨hz3_1,hc3_1,hf3_1⟩:=c3_ hb3 (w.heap.size+1)))
     refine B0a (F:=fun W=>Hid (Ext w W)/\(W.cell? ⟨w.heap.size,0,none⟩=some (.slice sp z.length sc)/\W.cell? ⟨w.heap.size,1,none⟩=some (.slice op o.length oc)/\W.cell? ⟨w.heap.size,2,none⟩=some (.int .i64 k)/\W.cell? ⟨w.heap.size,3,none⟩=some (.slice pa acts.length ca))/\Hid (Own5 W (w.heap.size+1) (.slice L.ps n1 L.cs) (.slice L.po n2 L.co) (.slice L.pe n3 L.ce) (.slice L.pn n4 L.cn) (.int .i64 rt))) ⟨hZ (exx),⟨by go_simp,by go_simp,by go_simp,by go_simp⟩,hZ ⟨by go_simp,by go_simp,by go_simp,by go_simp,by go_simp,fun o=>by go_simp⟩⟩ ?_;intro w1 ⟨E1,⟨b0,b1,b2,b3⟩,O5⟩;clear hb3 hc3 hf3 hs3 hz3_0 hc3_0 hf3_0 hz3_1 hc3_1 hf3_1 hb2 hc2 hf2 hs2 hz2_0 hc2_0 hf2_0 hz2_1 hc2_1 hf2_1 hb1 hc1 hf1 hs1 hz1_0 hc1_0 hf1_0 hz1_1 hc1_1 hf1_1 TH TD FT;generalize w.heap.size+1=gd at O5 ⊢;generalize w.heap.size=gs at b0 b1 b2 b3 ⊢;have y0:=cell_lt b0;have H1:=hZ (H.out.ext E1.out);have NW:=hZ (rNew H1.out.sizes H1.out.order (n:=k) (by omega) (by omega) HS.out);go_upto_region 4 with (go_at_call 32;refine NW.out.mono ?_;rintro e w2 ⟨r0,rfl,hW2,own2,hE2,hs2,ho2⟩)
     have PL:=hZ (rPlay (wb:=w1) hW2 HG.out (by omega) own2 hE2 (by rw [hs2,HZ.out.1];intro h0 b o' e;obtain ⟨b',o'',e',hb',_⟩:=H1.out.sizes.cells h0;rw [e] at e';cases e';exact hb') (by rw [ho2,HZ.out.2.1];intro h0 b o' e;obtain ⟨b',o'',e',hb',_⟩:=H1.out.order.cells h0;rw [e] at e';cases e';exact hb') (H1.out.acts.at_ HR.out.short) (by omega) HPL.out);have u3:=hE2.q b3;clear NW hW2 own2 hE2 hs2 ho2;go_upto_region 5 with (go_at_call 33;refine PL.out.mono ?_;rintro e w5 ⟨p5,c5,r,rfl,hR5,hW5,hb5,own5,hE5⟩)
     rw [<- hb5];have R5:=hZ hW5;have OW:=hZ own5;have X5:=hZ hE5;have cw:=hW5.c2;have d0:=hE5.q b0;have d1:=hE5.q b1;have z0:=cell_lt d0;have zr:=cell_lt cw;have SW:=hZ (hW5.words.slice hW5.le hW5.cap);have O55:=hZ (O5.out.ext hE5);obtain ⟨LL,ch,hwf⟩:=id HGS.out;have WF:=hZ hwf;have pos:0 < s'.S.words.length:=by rw [HZ.out.2.2.2.2];omega
     have PS:=hZ pos;clear PL hR5 hW5 hb5 own5 hE5 u3 b0 b1 b2 b3 y0 hwf pos;have pr90a:=Ext.r d0
     have pr90b:=Ext.r d1;have pr90c:=Ext.r cw
     refine rg0 w5 ?_
     refine' tkd 0 ?_;refine' tkd 3 ?_;refine' tkd 6 ?_;refine' tkd 8 ?_;refine G8a 2 (fun u W=>∃ p c,u = .slice p z.length c/\Ext w5 W/\SliceAt W p c z/\(0 < z.length \/ p=none)) rfl (by kernel_rfl) (by rfl) ?run2 ?vs2 ?next2
     case run2=>
      intro w' hE hS;refine .inl ⟨17,#[.slice sp z.length sc],by go_simp,(IZ.out _ (E1.out.trans (X5.out.trans ((Ext.drew (Ext.refl w5)).trans hE)))).mono ?_⟩;rintro e W ⟨p,c,rfl,hR,hE',h0⟩;exact ⟨_,rfl,p,c,rfl,((Ext.drew (Ext.refl w5)).trans hE).trans hE',hR.at_,h0⟩
     case vs2=>
      rintro u W ⟨p,c,_,hE,_⟩ W' hW;exact hE.trans hW
     case next2=>
     rintro u w6 ⟨p2,c2,rfl,hE6,hS6,h06⟩;have S6:=hZ hS6;have E6:=hZ hE6;have Z6:=hZ h06;clear hS6 hE6 h06;refine layy ?_;refine G8a 5 (fun u W=>∃ p c,u = .slice p o.length c/\Ext w6 W/\SliceAt W p c o/\(0 < o.length \/ p=none)) rfl (by kernel_rfl) (by rfl) ?run5 ?vs5 ?next5
     case run5=>
      intro w' hE hS;refine .inl ⟨17,#[.slice op o.length oc],by go_simp,(IO.out _ (E1.out.trans (X5.out.trans (E6.out.trans hE)))).mono ?_⟩;rintro e W ⟨p,c,rfl,hR,hE',h0⟩;exact ⟨_,rfl,p,c,rfl,hE.trans hE',hR.at_,h0⟩
     case vs5=>
      rintro u W ⟨p,c,_,hE,_⟩ W' hW;exact hE.trans hW
     case next5=>
     rintro u w7 ⟨p3,c3,rfl,hE7,hS7,h07⟩;have S7:=hZ hS7;have E7:=hZ hE7;have Z7:=hZ h07;clear hS7 hE7 h07;refine layy ?_;refine G8a 10 (fun u W=>∃ b ob c,u = .slice (some ⟨b,ob,none⟩) s'.S.words.length c/\Ext w7 W/\SliceAt W (some ⟨b,ob,none⟩) c s'.S.words) rfl (by kernel_rfl) (by rfl) ?run10 ?vs10 ?next10
     case run10=>
      intro w' hE hS;refine .inl ⟨17,#[.slice (some ⟨r.gb,0,none⟩) s'.S.words.length r.wc],by go_simp,(p2a (SW.out.ext (E6.out.trans (E7.out.trans hE))) (fun e=>by cases e) (by rw [HZ.out.2.2.2.2];omega)).mono ?_⟩;rintro e W ⟨p,c,rfl,hR,hE',h0⟩;obtain ⟨b,ob,rfl,_,_⟩:=hR.at_.cells PS.out;exact ⟨_,rfl,b,ob,c,rfl,hE.trans hE',hR.at_⟩
     case vs10=>
      rintro u W ⟨b,ob,c,_,hE,_⟩ W' hW;exact hE.trans hW
     case next10=>
     rintro u w8 ⟨b8,o8,c8,rfl,hE8,hS8⟩;have S8:=hZ hS8;have E8:=hZ hE8;clear hS8 hE8;refine layy ?_;refine G8a 11 (fun u W=>∃ hd:Hd,u = .tuple #[.pointer (some ⟨hd.hb,0,none⟩),.int .i64 0]/\Ext w8 W/\HAt W hd s'.S/\(∀ b ∈ hd.own,w8.heap.size<=b)) rfl (by kernel_rfl) (by rfl) ?run11 ?vs11 ?next11
     case run11=>
      intro w' hE hS;refine .inl ⟨16,#[.slice p2 z.length c2,.slice p3 o.length c3,.slice (some ⟨b8,o8,none⟩) s'.S.words.length c8],by go_simp,(m4b (w:=w8) HZ.out.2.2.1 HZ.out.2.2.2.1 rfl (S6.out.ext (E7.out.trans (E8.out.trans hE))) (S7.out.ext (E8.out.trans hE)) (S8.out.ext hE) Z6.out Z7.out WF.out (by rw [HZ.out.2.2.2.2];exact HR.out.err) hE).mono ?_⟩;rintro e W ⟨v,rfl,⟨hd,rfl,hA,hO,-,-⟩,hE'⟩;exact ⟨_,rfl,hd,rfl,hE.trans hE',hA,hO⟩
     case vs11=>
      rintro u W ⟨hd,_,hE,_⟩ W' hW;exact hE.trans hW
     case next11=>
     rintro u w9 ⟨hd,rfl,hE9,hA9,hO9⟩;have E59:=hZ (E6.out.trans (E7.out.trans (E8.out.trans hE9)));have HA9:=hZ hA9;have FAR:=hZ (show (∀ b ∈ hd.own,b ∉ r.own)/\(0 < s'.S.sizes.length -> ∀ b o,r.sp=some ⟨b,o,none⟩->b ∉ hd.own)/\(0 < s'.S.order.length -> ∀ b o,r.op=some ⟨b,o,none⟩->b ∉ hd.own)/\(∀ b ∈ r.own,b < w5.heap.size) /\ ∀ b ∈ hd.own,w1.heap.size<=b from by
      have l1:=X5.out.le;have l2:=(E6.out.trans (E7.out.trans E8.out)).le;have ol:=R5.out.D1a;refine ⟨fun b hb hm=>?_,fun h0 b o' e hm=>?_,fun h0 b o' e hm=>?_,ol,fun b hb=>?_⟩
      . have h1:=hO9 b hb;have h2:=ol b hm;omega
      . obtain ⟨b',o'',e',hb',_⟩:=R5.out.sizes.cells h0;rw [e] at e'
        cases e'
        have h1:=hO9 _ hm;omega
      . obtain ⟨b',o'',e',hb',_⟩:=R5.out.order.cells h0;rw [e] at e'
        cases e'
        have h1:=hO9 _ hm;omega
      . have h1:=hO9 b hb;omega)
     clear hE9 hA9 hO9 S6 S7 S8 Z6 Z7 E6 E7 E8 IZ IO WF SW;refine layy ?_;refine' tkd 12 ?_;refine' tkd 14 ?_;refine' tkL 16 ?_;refine A0a (by kernel_rfl) ?_ _;intro w10 _ Ew10;clear pr90a pr90b pr90c;have X10:=hZ (E59.out.trans Ew10);have H10:=hZ (HA9.out.ext Ew10);have R10:=hZ (R5.out.ext X10.out);have O10:=hZ (O55.out.ext X10.out);have Y10:=hZ (X5.out.trans X10.out);have LE:=hZ X10.out.le;clear Ew10 E59 HA9 R5 O55 X5 cw d0 d1 z0 zr;obtain ⟨g0,g1,g2,g3,g4,gz⟩:=O10.out
     go_upto_region 7 with (first
      | (go_at_call 38;refine (CP.out _ ((E1.out.trans Y10.out).trans (exx))).mono ?_;rintro e w11 ⟨M,rfl,hM,hE11,hB11,hon⟩)
      | (go_at_call 37;refine (PU.out _ hd M (H10.out.ext hE11) hM hon (fun b hb=>⟨(hB11 b hb).2,fun hm=>by have h1:=(hB11 b hb).1;have h2:=H10.out.D1a b hm;omega⟩)).mono ?_;rintro e w12 ⟨rfl,hN12⟩))
     have H12:=hZ hN12.toHAt;have Y12:=hZ (hN12.but.D3a (Y10.out.trans hE11) FAR.out.2.2.2.2);have nd:∀ b ∈ r.own,b ∉ hd.own:=fun b hb hm=>FAR.out.1 b hm hb
     have R12:=hZ ((R10.out.ext hE11).but' hN12.but (nd _ r.S8a) (nd _ r.Y3a) FAR.out.2.1 FAR.out.2.2.1);have LE12:=hZ (show w5.heap.size<=w12.heap.size from by have h1:=LE.out;have h2:=hE11.le;have h3:=hN12.but.size;omega);have ngd:gd ∉ hd.own:=fun hm=>by have h1:=FAR.out.2.2.2.2 _ hm;have h2:=cell_lt O5.out.a0;omega
     have O12:=hZ ((O10.out.ext hE11).but hN12.but ngd);have PS2:=hZ (show 0 < S2.words.length from by rw [HL2.out];omega);clear g0 g1 g2 g3 g4 gz hM hE11 hB11 hon hN12 nd ngd H10 R10 O10 Y10 PU CP;go_upto_region 8 with (go_at_call 20;refine (u3a H12.out PS2.out).mono ?_;rintro e w13 ⟨gw,cwd,rfl,hR13,hE13⟩)
     have R13:=hZ (R12.out.ext hE13);have Y13:=hZ (Y12.out.trans hE13);have W13:=hZ hR13.at_;have GW:=hZ (show ∀ b o',(some ⟨gw,0,none⟩:Option Addr)=some ⟨b,o',none⟩->b ∉ r.own from fun b o' e hm=>by
      have h1:=hR13.far e;have h2:=FAR.out.2.2.2.1 b hm;have h3:=LE12.out;omega)
     obtain ⟨g0,g1,g2,g3,g4,gz⟩:=O12.out.ext hE13;clear hR13 hE13 H12 R12 Y12 O12;go_upto_region 9 with (go_at_call 48;refine (PR.out _ r w1 R13.out E1.out Y13.out OW.out).mono ?_;rintro e w14 ⟨rfl,hN14⟩)
     have Y14:=hZ (hN14.but.D3a Y13.out OW.out);have W14:=hZ (W13.out.but hN14.but GW.out);have SW:=hZ (hN14.words.slice hN14.le hN14.cap);have cw:=hN14.c2;have te:(er == er)=true:=by simp
     have tx:(x == x)=true:=by simp
     clear g0 g1 g2 g3 g4 gz hN14 R13 W13 GW Y13
     go_wp2_with (first
      | (go_at_call 24;refine (I6a (b:=true) (E5c rfl) W14.out SW.out).mono ?_;rintro e w15 ⟨rfl,hb15⟩)
      | (go_at_call 15;refine (Z2a _).mono ?_;rintro e w16 ⟨rfl,hb16⟩))
     go_returns;exact ⟨rfl,E1.out.trans (Y14.out.trans (hb15.trans hb16))⟩
open Go.ChangeShapes Go.WideShapes Go.ChangeAt Go.RowKit Go.Joins
theorem L0b:prog.cellsOf 41=2:=by kernel_rfl
theorem M3b:prog.cellsOf 46=1:=by kernel_rfl
theorem O1b:prog.cellsOf 47=1:=by kernel_rfl
section
variable {H:Type} {enc:TypeId × Value->H} {w:World} {base:Nat} {held:Bool}
theorem J9b {fuel:Nat} {v:Value} {y:DataW H × List MemPlace} (h:DataW.trod enc prog w base (fun _=>true) held fuel 46 [v]=some y):∃ (q:Option Addr) (c:Nat) (E:List (Int × Int)),v = .slice q E.length c/\RdN w 2 q c (E.map endC)/\(q=none->c=0) /\ ∀ v ∈ E,(0<=v.1/\v.1<=255) /\ -9223372036854775808<=v.2/\v.2<=9223372036854775807:=by
 rcases Go.Deep.open_slice underlying46 h with ⟨hcs,-⟩ | ⟨a,len,cap,m,n,D,Pl,hcs,hb,hl,hm,hmm,hx,hi⟩
 . exact ⟨none,0,[],(F6c hcs).1,⟨by simp,by omega,fun h=>by simp at h⟩,fun _=>rfl,by simp⟩
 have hcs:=(F6c hcs).1
 simp only [H2c] at hmm
 subst hmm
 rw [v8a] at hi
 have num:∀ i,i < m -> ∃ (x:Int × Int),((0<=x.1/\x.1<=255) /\ -9223372036854775808<=x.2/\x.2<=9223372036854775807)/\w.cell? (a.add (i * 2))=some (.int .u8 x.1)/\w.cell? (a.add (i * 2+1))=some (.int .i64 x.2):=fun i h=>by
  obtain ⟨cs,hc,ht⟩:=hi i h;obtain ⟨_,hlen,hcell⟩:=World.cells?_some hc
  match cs,hlen with
  | [c0,c1],_=>
   obtain ⟨z0,z1,n',-,_,h0,h1⟩:=trod_struct2 underlying43 ht;obtain ⟨k0,e0,_,w0⟩:=DataW.trod_int underlying5 h0;obtain ⟨k1,e1,_,w1⟩:=DataW.trod_int underlying3 h1;rw [i0a] at e0;rw [P9a] at e1;simp at e0 e1;subst e0 e1;have cl:∀ (i2:Nat) (u:Value),[Value.int .u8 k0,.int .i64 k1][i2]? = some u->w.cell? ((a.add (i * 2)).add i2)=some u:=fun i2 u hu=>by
    rw [hcell i2 (by have:=(q5b.1 hu).1;simpa using this)]
    exact hu
   refine ⟨(k0,k1),⟨(by have:=bounds_u8 w0;simp only;omega),bounds_i64 w1⟩, ?_, ?_⟩
   . have:=cl 0 _ rfl
     rwa [Go.Deep.add_add] at this
   have:=cl 1 _ rfl
   rwa [Go.Deep.add_add] at this
 obtain ⟨z,hz⟩:∃ z:Nat->Int × Int,∀ i,i < m->((0<=(z i).1/\(z i).1<=255) /\ -9223372036854775808<=(z i).2/\(z i).2<=9223372036854775807)/\w.cell? (a.add (i * 2))=some (.int .u8 (z i).1)/\w.cell? (a.add (i * 2+1))=some (.int .i64 (z i).2):=
  ⟨fun i=>if h:i < m then (num i h).choose else (0,0),fun i h=>by simp only [H3c h];exact (num i h).choose_spec⟩
 refine ⟨some a,m,(List.range len).map z,by simpa using hcs,⟨by simpa using hl,by unfold maxLen at hm;omega,fun h0=>?_⟩,(fun h=>by cases h),fun v hv=>?_⟩
 . simp only [C6c,y5b] at h0;obtain ⟨b,off,spot⟩:=a;have hspot:spot=none:=by
    obtain ⟨_,h1,_⟩:=hz 0 (by omega)
    simpa [Addr.add] using B9c h1
   subst hspot;refine ⟨b,off,rfl, ?_,fun j x i v hx hv=>?_⟩
   . obtain ⟨_,h1,_⟩:=hz 0 (by omega);rw [G8c] at h1;exact cell_lt h1
   have hj:j < len:=by simpa using (q5b.1 hx).1
   have ex:x=endC (z j):=by simpa [hj,eq_comm] using hx
   subst ex;obtain ⟨_,h1,h2⟩:=hz j (by omega);rw [G8c] at h1 h2
   match i,hv with
   | 0,hv=>cases hv;rw [G0c];exact h1
   | 1,hv=>cases hv;exact h2
   | i+2,hv=>simp [endC] at hv
 obtain ⟨i,hi',rfl⟩:=F7c.1 hv
 exact (hz i (by have:=D8c.1 hi';omega)).1
theorem P0b {fuel:Nat} {v:Value} {y:DataW H × List MemPlace} (h:DataW.trod enc prog w base (fun _=>true) held fuel 47 [v]=some y):∃ (q:Option Addr) (c:Nat) (N:List (Int × List Int)) (K:List (Option Addr × Nat)),v = .slice q N.length c/\NdRd w q c K N/\(∀ k ∈ K,k.1=none->k.2=0)/\(∀ q ∈ N,-9223372036854775808<=q.1/\q.1<=9223372036854775807) /\ ∀ q ∈ N,∀ k ∈ q.2,-9223372036854775808<=k/\k<=9223372036854775807:=by
 rcases Go.Deep.open_slice underlying47 h with ⟨hcs,-⟩ | ⟨a,len,cap,m,n,D,Pl,hcs,hb,hl,hm,hmm,hx,hi⟩
 . exact ⟨none,0,[],[],(F6c hcs).1,⟨⟨by simp,by omega,fun h=>by simp at h⟩,rfl,fun j q k hq=>by simp at hq⟩,by simp,by simp,by simp⟩
 have hcs:=(F6c hcs).1
 simp only [H2c] at hmm
 subst hmm
 rw [L0b] at hi
 have num:∀ i,i < m -> ∃ (x:(Int × List Int) × (Option Addr × Nat)),(-9223372036854775808<=x.1.1/\x.1.1<=9223372036854775807)/\w.cell? (a.add (i * 2))=some (.int .i64 x.1.1)/\w.cell? (a.add (i * 2+1))=some (.slice x.2.1 x.1.2.length x.2.2)/\SliceAt w x.2.1 x.2.2 x.1.2/\(x.2.1=none->x.2.2=0):=fun i h=>by
  obtain ⟨cs,hc,ht⟩:=hi i h;obtain ⟨_,hlen,hcell⟩:=World.cells?_some hc
  match cs,hlen with
  | [c0,c1],_=>
   obtain ⟨z0,z1,n',-,_,h0,h1⟩:=trod_struct2 underlying41 ht;simp only [P9a,Y7a] at h0 h1;simp only [v0b,D9c,v1b,E0c] at h0 h1;obtain ⟨k0,e0,_,w0⟩:=DataW.trod_int underlying3 h0;obtain ⟨q,c,l,e1,hs,hn⟩:=open_ints h1;simp at e0;subst e0 e1;have cl:∀ (i2:Nat) (u:Value),[Value.int .i64 k0,.slice q l.length c][i2]? = some u->w.cell? ((a.add (i * 2)).add i2)=some u:=fun i2 u hu=>by
    rw [hcell i2 (by have:=(q5b.1 hu).1;simpa using this)]
    exact hu
   refine ⟨((k0,l),(q,c)),bounds_i64 w0, ?_, ?_,hs,hn⟩
   . have:=cl 0 _ rfl
     rwa [Go.Deep.add_add] at this
   have:=cl 1 _ rfl
   rwa [Go.Deep.add_add] at this
 obtain ⟨z,hz⟩:∃ z:Nat->(Int × List Int) × (Option Addr × Nat),∀ i,i < m->(-9223372036854775808<=(z i).1.1/\(z i).1.1<=9223372036854775807)/\w.cell? (a.add (i * 2))=some (.int .i64 (z i).1.1)/\w.cell? (a.add (i * 2+1))=some (.slice (z i).2.1 (z i).1.2.length (z i).2.2)/\SliceAt w (z i).2.1 (z i).2.2 (z i).1.2/\((z i).2.1=none->(z i).2.2=0):=
  ⟨fun i=>if h:i < m then (num i h).choose else ((0,[]),(none,0)),fun i h=>by simp only [H3c h];exact (num i h).choose_spec⟩
 refine ⟨some a,m,(List.range len).map fun i=>(z i).1,(List.range len).map fun i=>(z i).2,by simpa using hcs,⟨⟨by simpa using hl,by unfold maxLen at hm;omega,fun h0=>?_⟩,by simp,fun j q k hq hk=>?_⟩,fun k hk=>?_,fun q hq=>?_,fun q hq k hk=>?_⟩
 . simp only [v6b,C6c,y5b,G6c] at h0;obtain ⟨b,off,spot⟩:=a;have hspot:spot=none:=by
    obtain ⟨_,h1,_⟩:=hz 0 (by omega)
    simpa [Addr.add] using B9c h1
   subst hspot;refine ⟨b,off,rfl, ?_,fun j x i v hx hv=>?_⟩
   . obtain ⟨_,h1,_⟩:=hz 0 (by omega);rw [G8c] at h1;exact cell_lt h1
   have hj:j < len:=by simpa using (q5b.1 hx).1
   have ex:x=S4a (z j).1 (z j).2:=by
    rw [List.getElem?_zipWith] at hx
    simpa [hj,eq_comm] using hx
   subst ex;obtain ⟨_,h1,h2,_⟩:=hz j (by omega);rw [G8c] at h1 h2
   match i,hv with
   | 0,hv=>cases hv;rw [G0c];exact h1
   | 1,hv=>cases hv;exact h2
   | i+2,hv=>simp [S4a] at hv
 . have hj:j < len:=by simpa using (q5b.1 hq).1
   have e1:q=(z j).1:=by simpa [hj,eq_comm] using hq
   have e2:k=(z j).2:=by simpa [hj,eq_comm] using hk
   subst e1 e2;exact (hz j (by omega)).2.2.2.1
 . obtain ⟨i,hi',rfl⟩:=F7c.1 hk;exact (hz i (by have:=D8c.1 hi';omega)).2.2.2.2
 . obtain ⟨i,hi',rfl⟩:=F7c.1 hq;exact (hz i (by have:=D8c.1 hi';omega)).1
 obtain ⟨i,hi',rfl⟩:=F7c.1 hq
 exact (hz i (by have:=D8c.1 hi';omega)).2.2.2.1.wf k hk
theorem open_D {r:Reach} {b0:Nat} {v:Value} {dw:DataW H} {p:List MemPlace} (hv:Value.okWide prog w r b0 49 v) (h:DataW.Trod enc prog w base (fun _=>true) held 49 v dw p) :
    ∃ (L:DgL) (d:Nd.Dia),v=dgV L d.sizes.length d.order.length d.ends.length d.nodes.length d.root/\r2a w L d:=by
  obtain ⟨cs,rfl,hsz⟩:=okWide_struct underlying49 hv;have hC:prog.cellsOf 49=5:=by kernel_rfl
  obtain ⟨l⟩:=cs
  match l,(hsz.trans hC:l.length=5) with
  | [c0,c1,c2,c3,c4],_=>
   obtain ⟨fuel,hf⟩:=h;obtain ⟨xs,k,-,-,-,hxl,hf⟩:=DataW.trod_struct underlying49 hf;have f0:DataW.trod enc prog w base (fun _=>true) held k 22 (([c0,c1,c2,c3,c4].drop 0).take (prog.cellsOf 22))=xs[0]? := hf 0 _ rfl;rw [Y7a] at f0;have f1:DataW.trod enc prog w base (fun _=>true) held k 22 (([c0,c1,c2,c3,c4].drop 1).take (prog.cellsOf 22))=xs[1]? := hf 1 _ rfl;rw [Y7a] at f1;have f2:DataW.trod enc prog w base (fun _=>true) held k 46 (([c0,c1,c2,c3,c4].drop 2).take (prog.cellsOf 46))=xs[2]? := hf 2 _ rfl;rw [M3b] at f2;have f3:DataW.trod enc prog w base (fun _=>true) held k 47 (([c0,c1,c2,c3,c4].drop 3).take (prog.cellsOf 47))=xs[3]? := hf 3 _ rfl;rw [O1b] at f3;have f4:DataW.trod enc prog w base (fun _=>true) held k 3 (([c0,c1,c2,c3,c4].drop 4).take (prog.cellsOf 3))=xs[4]? := hf 4 _ rfl;rw [P9a] at f4;simp only [v0b,D9c,v1b,E0c] at f0 f1 f2 f3 f4;clear hf;have hxl5:xs.length=5:=hxl;have fin:∀ j,j < 5 -> ∃ y,xs[j]? = some y:=fun j hj=>⟨_,r1b (by omega)⟩
   obtain ⟨y0,g0⟩:=fin 0 (by omega);obtain ⟨y1,g1⟩:=fin 1 (by omega);obtain ⟨y2,g2⟩:=fin 2 (by omega);obtain ⟨y3,g3⟩:=fin 3 (by omega);obtain ⟨y4,g4⟩:=fin 4 (by omega);rw [g0] at f0;rw [g1] at f1;rw [g2] at f2;rw [g3] at f3;rw [g4] at f4;obtain ⟨ps,cs,z,rfl,s0,n0⟩:=open_ints f0;obtain ⟨po,co,o,rfl,s1,n1⟩:=open_ints f1;obtain ⟨pe,ce,E,rfl,s2,n2,b2⟩:=J9b f2;obtain ⟨pn,cn,N,K,rfl,s3,n3,b3,b4⟩:=P0b f3;obtain ⟨rt,e4,_,wf⟩:=DataW.trod_int underlying3 f4;simp at e4;subst e4;exact ⟨⟨ps,cs,po,co,pe,ce,pn,cn,K⟩,⟨z,o,E,N,rt⟩,rfl,⟨⟨s0,s1,s2,s3.n,s3.kl,s3.ks⟩,⟨n0,n1,n2,n3⟩,b2,b3,b4,bounds_i64 wf⟩⟩
end
end Go.Proofs.YtdokmmhjmclmnaaGreat
