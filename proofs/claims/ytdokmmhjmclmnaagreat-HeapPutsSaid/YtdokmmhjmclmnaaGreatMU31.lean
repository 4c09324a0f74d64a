/- Part 31 of a proof. -/
import Derived.Test.YtdokmmhjmclmnaaGreatMU30
set_option linter.unusedSimpArgs false
set_option linter.unusedVariables false
set_option linter.unusedSectionVars false
set_option linter.unnecessarySimpa false
set_option maxHeartbeats 16000000
set_option maxRecDepth 100000
namespace Go.Proofs.YtdokmmhjmclmnaaGreat
open Go.Proofs.Tryz
variable {W' w w' w0 wb:World} {B a b bx c ca cap ce cn f g i j k lb m n qc:Nat} {choice e t x:Int} {A W fs ks l o z:List Int} {D T Y:List Nat} {p p2 pa pe pn q:Option Addr} {d:Hd} {S S':Hp.Hs} {r:Rd} {L:List Hp.Tl} {M:List (Nat × Int)} {s:Hp.Sc}
open Go.RowKit Go.Maps
structure CnIn (d:Nd.Dia):Prop where
 low:d.Low
 el:d.ends.length<=1000
 nl:d.nodes.length<=1000
 ends:∀ v ∈ d.ends,okV v
 k0:∀ q ∈ d.nodes,q.2 ≠ []
 k12:∀ q ∈ d.nodes,q.2.length<=12
 var:∀ q ∈ d.nodes,-9223372036854775808<=q.1/\q.1<=9223372036854775807
 one:∀ q ∈ d.nodes,∀ r ∈ d.nodes,q.1=r.1->q.2.length=r.2.length
theorem z6a {f:Int->Nd.Cl->Int × Nd.Cl} {k:Int}:∀ {l:List Int} {s:Nd.Cl},Nd.mapS f (l ++ [k]) s=((Nd.mapS f l s).1 ++ [(f k (Nd.mapS f l s).2).1],(f k (Nd.mapS f l s).2).2)
 | [],_=>rfl
 | a :: r,s=>by simp [Nd.mapS,z6a (l:=r)]
theorem P2b {i:Mkr} {s:Nd.Cl} {g0 c0:Nat} {K:List (Nat × Nat)} {c:Int} (h:MkSt wb w i s.ends s.nodes pe ce pn cn K) (hs:SliceAt w (some ⟨g0,0,none⟩) c0 ks) (h0:wb.heap.size<=g0/\g0 < w.heap.size) (h2:g0 ∉ i.dyn pe pn) (hl0:0 < ks.length) (hl1:ks.length<=12)
    (hq:okN (keyQ (c,ks))) (hinj:∀ y ∈ s.nodes,keyQ y=keyQ (c,ks)->y=(c,ks)) (hnl:s.nodes.length<=100000) :
    Calls prog 199 #[.pointer (some ⟨i.gm,0,none⟩),.int .i64 c,.slice (some ⟨g0,0,none⟩) ks.length c0] w fun e w'=>e = .returned (.int .i64 (Nd.O3a (c,ks) s).1) /\ ∃ (pe':Option Addr) (ce':Nat) (pn':Option Addr) (cn':Nat) (K':List (Nat × Nat)),MkSt wb w' i s.ends (Nd.O3a (c,ks) s).2.nodes pe' ce' pn' cn' K'/\But (i.dyn pe pn) w w'/\(∀ b ∈ i.dyn pe' pn',b ∈ i.dyn pe pn \/ w.heap.size<=b)/\(∀ b ∈ K'.map Prod.fst,b ∈ K.map Prod.fst \/ b=g0):=by
  unfold Nd.O3a
  cases hf:Nd.flat ks with
  | true=>
   simp only [hf,H2c];refine (C6b hs hl0 hf).mono ?_;rintro e w' ⟨rfl,hE⟩;exact ⟨rfl,pe,ce,pn,cn,K,h.ext' hE,But.E7a hE,fun b hb=>.inl hb,fun b hb=>.inl hb⟩
  | false=>
   simp only [hf,x6b,H1c]
   cases hj:s.nodes.idxOf? (c,ks) with
   | some j=>
    refine (L7b h hs h0 h2 hf hl0 hl1 hq hinj hj (by have:=(p4b.1 hj).1;omega)).mono ?_;rintro e w' ⟨rfl,pe',ce',pn',cn',hM,hB,hD⟩;exact ⟨rfl,pe',ce',pn',cn',K,hM,hB,hD,fun b hb=>.inl hb⟩
   | none=>
    refine (P3b h hs h0 h2 hf hl0 hl1 hq hinj hj hnl).mono ?_;rintro e w' ⟨rfl,pe',ce',pn',cn',hM,hB,hD⟩;refine ⟨rfl,pe',ce',pn',cn',_,hM,hB,hD,fun b hb=>?_⟩;rw [C5c] at hb
    rcases C4c.1 hb with hb | hb
    . exact .inl hb
    exact .inr (by simpa using hb)
structure KdSt (w wr:World) (c:Cn) (i:Mkr) (l0:List Nat) (K0:List (Nat × Nat)) (pe pn:Option Addr) (K:List (Nat × Nat)) (bb g:Nat) (v kv:Value) (R:List Int):Prop where
 but:But (c.gk :: l0) w wr
 dyn:∀ b ∈ i.dyn pe pn,b ∈ l0 \/ w.heap.size<=b
 kk:∀ b ∈ K.map Prod.fst,b ∈ K0.map Prod.fst \/ w.heap.size<=b
 b0:wr.cell? ⟨bb,0,none⟩=some v
 b1:wr.cell? ⟨bb,1,none⟩=some kv
 row:A3a wr g R
 new:w.heap.size<=bb/\w.heap.size<=g/\bb ≠ g
 far:∀ b,b=bb \/ b=g->b ∉ c.fixed/\b ≠ c.gk/\b ∉ i.dyn pe pn/\b ∉ K.map Prod.fst
namespace KdSt
variable {w wr w':World} {c:Cn} {i:Mkr} {l0:List Nat} {K0 K K':List (Nat × Nat)} {pe pn pe' pn':Option Addr} {bb g:Nat} {v kv:Value} {R R':List Int}
theorem ext (h:KdSt w wr c i l0 K0 pe pn K bb g v kv R) (k:Ext wr w'):KdSt w w' c i l0 K0 pe pn K bb g v kv R:=
 { h with
   but:=h.but.ext k
   b0:=k.q h.b0
   b1:=k.q h.b1
   row:=h.row.ext k }
theorem set_ (h:KdSt w wr c i l0 K0 pe pn K bb g v kv R) (hw:Hp.wr R j x=some R') (h1 : -9223372036854775808<=x) (h2:x<=9223372036854775807):KdSt w (wr.setCell ⟨g,j,none⟩ (.int .i64 x)) c i l0 K0 pe pn K bb g v kv R':=by
 have k:But [g] wr (wr.setCell ⟨g,j,none⟩ (.int .i64 x)):=(But.refl _ _).setCell (.inl (by simp)) _
 have hb:bb ∉ [g]:=by simpa using h.new.2.2
 exact
  { h with
    but:=h.but.over k fun b hb=>by rw [w8b.1 hb];exact .inr h.new.2.1
    b0:=(k.cell (cell_lt h.b0) hb 0).trans h.b0
    b1:=(k.cell (cell_lt h.b0) hb 1).trans h.b1
    row:=h.row.set hw h1 h2 }
theorem step (h:KdSt w wr c i l0 K0 pe pn K bb g v kv R) (hb:But (c.gk :: i.dyn pe pn) wr w') (hd:∀ b ∈ i.dyn pe' pn',b ∈ i.dyn pe pn \/ wr.heap.size<=b) (hk:∀ b ∈ K'.map Prod.fst,b ∈ K.map Prod.fst \/ wr.heap.size<=b):KdSt w w' c i l0 K0 pe' pn' K' bb g v kv R:=by
 have zb:=cell_lt h.b0
 have zg:g < wr.heap.size:=h.row.lt
 have hw:=h.but.size
 have nb:∀ b,b=bb \/ b=g->b ∉ c.gk :: i.dyn pe pn:=fun b hx hm=>by
  rcases E6c.1 hm with e | hm
  . exact (h.far b hx).2.1 e
  exact (h.far b hx).2.2.1 hm
 refine ⟨?_,fun b hm=>?_,fun b hm=>?_,(hb.cell zb (nb bb (.inl rfl)) 0).trans h.b0,(hb.cell zb (nb bb (.inl rfl)) 1).trans h.b1,h.row.but hb (nb g (.inr rfl)),h.new,fun b hx=>⟨(h.far b hx).1,(h.far b hx).2.1,fun hm=>?_,fun hm=>?_⟩⟩
 . exact h.but.over hb fun x hx=>by
     rcases E6c.1 hx with e | hx
     . exact .inl (by rw [e];simp)
     rcases h.dyn x hx with h | h
     . exact .inl (u3b _ h)
     exact .inr h
 . rcases hd b hm with hm | hm
   . exact h.dyn b hm
   exact .inr (by omega)
 . rcases hk b hm with hm | hm
   . exact h.kk b hm
   exact .inr (by omega)
 . rcases hd b hm with hm | hm
   . exact (h.far b hx).2.2.1 hm
   rcases hx with rfl | rfl <;> omega
 rcases hk b hm with hm | hm
 . exact (h.far b hx).2.2.2 hm
 rcases hx with rfl | rfl <;> omega
end KdSt
theorem s5a {xs:List Int} (hx:xs.length=j) (hj:j < m):Hp.wr (xs ++ List.replicate (m-j) 0) j x=some ((xs ++ [x]) ++ List.replicate (m-(j+1)) 0):=by
 unfold Hp.wr
 rw [H5c (by simp;omega)]
 congr 1
 obtain ⟨r,hr⟩:∃ r,m-j=r+1:=⟨m-j-1,by omega⟩
 rw [hr,show m-(j+1)=r by omega,t5b _ _ (by omega),hx,G1c,v3b,w6b]
 simp
theorem q3a {xs:List Int} (hx:xs.length=j) (hj:j < m):Hp.rd (xs ++ List.replicate (m-j) 0) j=some 0:=by
 unfold Hp.rd
 rw [q0b (by omega),hx,G1c,r6b,H5c (by omega)]
theorem A3a.sl (h:A3a w g l) (hl:l.length<=1000000):SliceAt w (some ⟨g,0,none⟩) l.length l:=
 ⟨H0c _,by omega,h.wf,fun _=>⟨g,0,rfl,h.lt,fun i x hx=>by rw [G4c];exact h.get hx⟩⟩
theorem m9b {c:Cn} {i:Mkr} {L:DgL} {d:Nd.Dia} {s:Nd.Cl} {K:List (Nat × Nat)} (hd:DgRd wb L d.sizes d.order d.ends d.nodes) (hin:CnIn d) (h:CnSt wb w c i L d s pe ce pn cn K) (hcl:Nd.ClIn d s) (ha:a<=m) (hm:m+1<=d.nodes.length) (hk:getI a s.known=none)
    (IH:∀ (r:Int),d.Ref r m -> ∀ (w:World) (s:Nd.Cl) (pe:Option Addr) (ce:Nat) (pn:Option Addr) (cn:Nat) (K:List (Nat × Nat)),CnSt wb w c i L d s pe ce pn cn K->Nd.ClIn d s->Calls prog 196 (c.args r) w (m8a wb w c i L d (i.dyn pe pn) K (d.C3a (m+1) r s).1 (d.C3a (m+1) r s).2)) :
    Calls prog 196 (c.args a) w (m8a wb w c i L d (i.dyn pe pn) K (d.C3a (m+1+1) a s).1 (d.C3a (m+1+1) a s).2):=by
  have hcf:d.C3a (m+1+1) a s=((Nd.O3a ((d.nodeAt a).1,(Nd.mapS (d.C3a (m+1)) (d.nodeAt a).2 s).1) (Nd.mapS (d.C3a (m+1)) (d.nodeAt a).2 s).2).1,{ (Nd.O3a ((d.nodeAt a).1,(Nd.mapS (d.C3a (m+1)) (d.nodeAt a).2 s).1) (Nd.mapS (d.C3a (m+1)) (d.nodeAt a).2 s).2).2 with known:=putI a (Nd.O3a ((d.nodeAt a).1,(Nd.mapS (d.C3a (m+1)) (d.nodeAt a).2 s).1) (Nd.mapS (d.C3a (m+1)) (d.nodeAt a).2 s).2).1 (Nd.O3a ((d.nodeAt a).1,(Nd.mapS (d.C3a (m+1)) (d.nodeAt a).2 s).1) (Nd.mapS (d.C3a (m+1)) (d.nodeAt a).2 s).2).2.known }):=by
   rw [Nd.Dia.C3a];rw [H4c (by omega),z5b,hk]
  rw [hcf];have hTo:=Nd.g2a hin.low hin.k0 (m+1) (a:Int) s ⟨by omega,by omega⟩ hm hcl;rw [hcf] at hTo;have hTS:∀ j,Nd.ClTos d s a (Nd.mapS (d.C3a (m+1)) ((d.nodeAt a).2.take j) s).1 (Nd.mapS (d.C3a (m+1)) ((d.nodeAt a).2.take j) s).2:=fun j=>Nd.B9b _ s (fun k hk=>by
   have hk:=hin.low a (by omega) k (u4b hk);exact ⟨hk.1,fun s hs=>Nd.g2a hin.low hin.k0 m k s ⟨by have:=hk.1;omega,hk.2⟩ (by omega) hs⟩) hcl
  have hkids:∀ k ∈ (d.nodeAt a).2,d.Ref k m:=fun k hk=>by
   have:=hin.low a (by omega) k hk;exact ⟨by have:=this.1;omega,this.2⟩
  obtain ⟨q,hq⟩:=A5a (E:=d.nodes) (j:=a) (by omega);obtain ⟨⟨kp,kc⟩,hkk⟩:=A5a (E:=L.K) (j:=a) (by rw [hd.kl];omega);obtain ⟨b,o,hp,hb,hc⟩:=hd.node_cells (by omega);obtain ⟨q1,q2⟩:=hc a q _ hq hkk;have SK:=hd.ks a q _ hq hkk;have hqa:d.nodeAt a=q:=by unfold Nd.Dia.nodeAt;rw [hq];rfl
  have hqm:=u1b hq;rw [hqa] at hTo hTS hkids ⊢;have hq0:0 < q.2.length:=v2b.2 (hin.k0 q hqm);have hq12:=hin.k12 q hqm;have hqv:=hin.var q hqm;have hone:=hin.one q hqm;have hnl:=hin.nl;have hel:=hin.el;have htl:a < d.nodes.length:=by omega
  have q1:=h.sm.ext.q q1;have q2:=h.sm.ext.q q2;have l4:=hd.n.le;rw [A7a hd.kl] at l4;have HSK:=hZ (fun W (hE:Ext wb W)=>SK.ext hE);have skle:=SK.le;have skcap:=SK.cap;simp only at skle skcap;have H:=hZ h;have k1:=h.k;have d5:=h.d.c5;rw [hp] at d5;have hlk:=h.map.h4a (t:=119) underlying3 underlying119 (zeroValue3 w) (k:=a) (by omega);rw [hk] at hlk;simp only [Option.getD_none,Option.isSome_none] at hlk;have t0:decide ((a:Int) < 0)=false:=dF;have te:decide ((a:Int) < (d.nodes.length:Int))=true:=dT;have HCL:=hZ hcl;have HTO:=hZ hTo;have HTS:=hZ hTS;have HIH:=hZ IH;have HKD:=hZ hkids;have HONE:=hZ hone;have HIN:=hZ hin;obtain ⟨bk,okk,ekp,hbk,hck⟩:=SK.cells hq0;simp only at ekp;subst ekp;have HCK:=hZ hck;obtain ⟨v,ks⟩:=q;simp only at q1 q2 skle skcap hq0 hq12 hqv HTO HTS HKD HONE ⊢;obtain ⟨n,hn⟩:∃ n,ks.length=n:=⟨_,rfl⟩
  have HN:=hZ hn;rw [hn] at q2 skle hq0 hq12;have hmk:=run_make_row' (P:=prog) 22 3 (.int .i64 0) 8 underlying22 (show (prog.info? 3).map (fun i=>(i.zero,i.size,i.bytes))=some (some (.int .i64 0),1,8) from by kernel_rfl) rfl .i64 .i64 n (by omega) (by omega);have HEW:=hZ h.sm.ext.le
  have NF:=hZ (fun (b:Nat) (hb:b ∈ c.fixed \/ b=c.gk \/ b ∈ i.dyn pe pn \/ b ∈ K.map Prod.fst)=>(by
   rcases hb with hb | hb | hb | hb
   . exact (h.lo b (.inl hb)).2
   . exact (h.lo b (.inr hb)).2
   . exact (h.sm.lo b (.inl hb)).2
   . exact (h.sm.lo b (.inr hb)).2:b < w.heap.size))
  simp only at HCK;clear hck HSK;clear h hd hc hkk hqa hqm hp hcf hcl hTo hTS IH hkids hone hin SK hq hn hk ha;generalize hN4:d.nodes.length=n4 at *;have HN4:=hZ hN4;clear hN4;unfold Cn.args;have mixed:prog.follows .mixedOrders=true:=by kernel_rfl
  go_enter func196,ntmps196
  go_wp2_with fail
  clear hmk hlk;have E0:Ext w ((w.alloc (.cells #[.int .i64 v,.slice (some ⟨bk,okk,none⟩) n kc] 41)).alloc (.cells (madeCells #[.int .i64 0] n) 3)):=exx;have g1:((w.alloc (.cells #[.int .i64 v,.slice (some ⟨bk,okk,none⟩) n kc] 41)).alloc (.cells (madeCells #[.int .i64 0] n) 3)).cell? ⟨w.heap.size,0,none⟩=some (.int .i64 v):=by go_simp
  have g2:((w.alloc (.cells #[.int .i64 v,.slice (some ⟨bk,okk,none⟩) n kc] 41)).alloc (.cells (madeCells #[.int .i64 0] n) 3)).cell? ⟨w.heap.size,1,none⟩=some (.slice (some ⟨bk,okk,none⟩) n kc):=by go_simp
  have W0:A3a ((w.alloc (.cells #[.int .i64 v,.slice (some ⟨bk,okk,none⟩) n kc] 41)).alloc (.cells (madeCells #[.int .i64 0] n) 3)) (w.heap.size+1) (List.replicate n 0):=P4a _ n _ (by simp);refine B0a (F:=fun W=>Hid (Ext w W)/\W.cell? ⟨w.heap.size,0,none⟩=some (.int .i64 v)/\W.cell? ⟨w.heap.size,1,none⟩=some (.slice (some ⟨bk,okk,none⟩) n kc)/\Hid (A3a W (w.heap.size+1) (List.replicate n 0))) ⟨hZ E0,g1,g2,hZ W0⟩ ?_;clear E0 g1 g2 W0;intro w1 ⟨E1,g1,g2,W1⟩;have N1:=hZ (H.out.ext' E1.out)
  have KS0:Hid (KdSt w w1 c i (i.dyn pe pn) K pe pn K w.heap.size (w.heap.size+1) (.int .i64 v) (.slice (some ⟨bk,okk,none⟩) n kc) ([] ++ List.replicate (n-0) 0)):=hZ
   { but:=But.E7a E1.out
     dyn:=fun b hb=>.inl hb
     kk:=fun b hb=>.inl hb
     b0:=g1
     b1:=g2
     row:=W1.out
     new:=⟨H0c _,by omega,by omega⟩
     far:=fun b hx=>by
      have hb2:w.heap.size<=b:=by omega
      refine ⟨fun hm=>?_,fun hm=>?_,fun hm=>?_,fun hm=>?_⟩
      . have:=NF.out b (.inl hm);omega
      . have:=NF.out b (.inr (.inl hm));omega
      . have:=NF.out b (.inr (.inr (.inl hm)));omega
      . have:=NF.out b (.inr (.inr (.inr hm)));omega }
  have HBK:=hZ hbk;have HQV:=hZ hqv;clear E1 g1 g2 W1 NF H q1 q2 d5 k1 hb l4 hbk hqv te;generalize w.heap.size+1=g at KS0 ⊢;generalize w.heap.size=bb at KS0 ⊢
  go_loopg [45] n (fun g' iv wr=>∃ (j:Nat) (sj:Nd.Cl) (xsj:List Int) (pe':Option Addr) (ce':Nat) (pn':Option Addr) (cn':Nat) (Kj:List (Nat × Nat)),j<=n/\n-j<=g'/\iv = .int .i64 j/\Hid (CnSt wb wr c i L d sj pe' ce' pn' cn' Kj)/\Hid (KdSt w wr c i (i.dyn pe pn) K pe' pn' Kj bb g (.int .i64 v) (.slice (some ⟨bk,okk,none⟩) n kc) (xsj ++ List.replicate (n-j) 0))/\Aside (Nd.mapS (d.C3a (m+1)) (ks.take j) s=(xsj,sj)))
  case atStart=>exact ⟨0,s,[],pe,ce,pn,cn,K,G9c _,by omega,rfl,N1,KS0,rfl⟩
  case round=>
   obtain ⟨j,sj,xsj,pe',ce',pn',cn',Kj,hj,hg,rfl,NJ,KJ,RJ⟩:=hrel;clear N1 KS0;have TJ:=HTS.out j;rw [RJ.out] at TJ;simp only at TJ;have hxl:xsj.length=j:=by
    have:=congrArg (fun p=>p.1.length) RJ.out;simp only [Nd.e9a,A3c,HN.out] at this;omega
   have HXL:=hZ hxl;have HTJ:=hZ TJ;clear TJ hxl
   by_cases hlt:j < n
   . have tk:decide ((j:Int) < (n:Int))=true:=dT;obtain ⟨k,hkj⟩:=A5a (E:=ks) (j:=j) (by rw [HN.out];exact hlt);have hkm:=u1b hkj;have T2:=Nd.g2a HIN.out.low HIN.out.k0 m k sj (HKD.out k hkm) (by rw [HN4.out];omega) HTJ.out.ok;have CALL:=hZ (HIH.out k (HKD.out k hkm));obtain ⟨x,hx⟩:∃ x,(d.C3a (m+1) k sj).1=x:=⟨_,rfl⟩
     obtain ⟨s2,hs2⟩:∃ s2,(d.C3a (m+1) k sj).2=s2:=⟨_,rfl⟩
     rw [hx,hs2] at T2;have HX:=hZ hx;have HS2:=hZ hs2;have few:=T2.ok.few;have bx : -9223372036854775808<=x/\x<=9223372036854775807:=by
      have h1:=T2.lo;have h2:=T2.hi;have h3:=few.2.1;have h4:=few.1;rw [HN4.out] at h3;omega
     have gk:=NJ.out.sm.ext.q (HCK.out j k hkj);have b1:=KJ.out.b1;have f4:=NJ.out.f;unfold Cn.fv at f4;unfold Cn.args at CALL;have HKJ:=hZ hkj;have HBX:=hZ bx;clear hkj hkm T2 few hx hs2 bx
     go_wp2_with fail
     refine Calls.mono (CALL.out wr sj pe' ce' pn' cn' Kj NJ.out HTJ.out.ok) ?_;rintro e w4 ⟨rfl,pe4,ce4,pn4,cn4,K4,N4,B4,Y4,Z4⟩;rw [HX.out];rw [HS2.out] at N4;have KJ4:=hZ (KJ.out.step B4 Y4 Z4);have N4:=hZ N4;have grow:=KJ4.out.row.get (q3a HXL.out hlt);have frow:=KJ4.out.row.froz j;have KJ5:=hZ (KJ4.out.set_ (s5a (x:=x) HXL.out hlt) HBX.out.1 HBX.out.2);have N5:=hZ (N4.out.far (l:=[g]) ((But.refl _ _).setCell (p:=⟨g,j,none⟩) (.inl (by simp)) (.int .i64 x)) (fun b hb=>by rw [w8b.1 hb];exact G5c HEW.out KJ4.out.new.2.1) (fun b hb=>by rw [w8b.1 hb];exact KJ4.out.far g (.inr rfl)));clear B4 Y4 Z4 gk b1 f4 CALL KJ NJ
     go_wp2_with fail
     go_roundg (n-(j+1))
     case measure=>omega
     case rel=>exact ⟨j+1,s2,xsj ++ [x],pe4,ce4,pn4,cn4,K4,by omega,H0c _,by go_num,N5,KJ5,(show Aside _ from by
      rw [y6b,HKJ.out];show Nd.mapS (d.C3a (m+1)) (ks.take j ++ [k]) s=_;rw [z6a,RJ.out];simp only [HX.out,HS2.out])⟩
   have:j=n:=by omega
   subst this;have tk:decide ((j:Int) < (j:Int))=false:=dF;have RJ2:Nd.mapS (d.C3a (m+1)) ks s=(xsj,sj):=by
    have h1:=RJ.out
    rwa [s6b (by rw [HN.out];exact H0c _)] at h1
   have HRJ2:=hZ RJ2;have TO:=HTO.out;rw [RJ2] at TO;obtain ⟨xr,hxr⟩:∃ xr,(Nd.O3a (v,xsj) sj).1=xr:=⟨_,rfl⟩
   obtain ⟨s2,hs2⟩:∃ s2,(Nd.O3a (v,xsj) sj).2=s2:=⟨_,rfl⟩
   simp only [hxr,hs2] at TO;have hse:s2.ends=sj.ends/\s2.known=sj.known:=by
    rw [<- hs2];unfold Nd.O3a
    split
    . exact ⟨rfl,rfl⟩
    split <;> exact ⟨rfl,rfl⟩
   have few:=HTJ.out.ok.few;rw [HN4.out] at few;have bxr : -9223372036854775808<=xr/\xr<=9223372036854775807:=by
    have h1:=TO.lo;have h2:=TO.hi;have h3:=TO.ok.few;rw [HN4.out] at h3;simp only at h1 h2 h3;omega
   rw [G1c,v4b,C7c] at KJ;have HXR:=hZ hxr;have HS2:=hZ hs2;have HSE:=hZ hse;have HFEW:=hZ few;have HBX:=hZ bxr
   have MN:=hZ (fun W (hN:CnSt wb W c i L d sj pe' ce' pn' cn' Kj) (hR:A3a W g xsj)=>(by
    have:=P2b (c:=v) hN.sm (hR.sl (by rw [HXL.out];omega)) ⟨G5c HEW.out KJ.out.new.2.1,hR.lt⟩ (KJ.out.far g (.inr rfl)).2.2.1 (by rw [HXL.out];omega) (by rw [HXL.out];omega) (o5b (by rw [HXL.out];exact hq12) HQV.out (fun x hx=>by have:=HTJ.out.xs x hx;have:=HFEW.out;omega)) (fun y hy e=>b7b (fun e1=>by
     obtain ⟨q',hq',h1,h2⟩:=(HTJ.out.ok.ns y hy).1;have:=HONE.out q' hq' (by rw [<- h1,e1]);rw [HN.out] at this;simp only at e1 ⊢;rw [HXL.out];omega) e) (by have:=HFEW.out;omega)
    rw [HXL.out,HXR.out,HS2.out] at this;exact this:Calls prog 199 #[.pointer (some ⟨i.gm,0,none⟩),.int .i64 v,.slice (some ⟨g,0,none⟩) j j] W fun e w'=>e = .returned (.int .i64 xr) /\ ∃ (pe'':Option Addr) (ce'':Nat) (pn'':Option Addr) (cn'':Nat) (K'':List (Nat × Nat)),MkSt wb w' i sj.ends s2.nodes pe'' ce'' pn'' cn'' K''/\But (i.dyn pe' pn') W w'/\(∀ b ∈ i.dyn pe'' pn'',b ∈ i.dyn pe' pn' \/ W.heap.size<=b)/\(∀ b ∈ K''.map Prod.fst,b ∈ Kj.map Prod.fst \/ b=g)))
   have k1:=NJ.out.k;have m1:=NJ.out.m;have b0:=KJ.out.b0;clear RJ2 TO hxr hs2 hse few bxr;go_upto_region 13 with fail
   refine D4a (S:=fun W=>W.cell? ⟨c.kb,0,none⟩=some (.map (some c.gk))/\W.cell? ⟨c.mb,0,none⟩=some (.pointer (some ⟨i.gm,0,none⟩))/\W.cell? ⟨bb,0,none⟩=some (.int .i64 v)) (R:=Eq) (by kernel_rfl) (fun _=>rfl) ?_ ?_
   . exact ⟨k1,m1,b0⟩
   refine' tkr 0 ?_ (hy:=by intro w hSw;(obtain ⟨s1,s2',s3⟩:=hSw);go_simp;try with_reducible rfl);refine' tkr 1 ?_ (hy:=by intro w hSw;(obtain ⟨s1,s2',s3⟩:=hSw);go_simp;try with_reducible rfl);refine' tkr 2 ?_ (hy:=by intro w hSw;(obtain ⟨s1,s2',s3⟩:=hSw);go_simp;try with_reducible rfl);refine' tkr 3 ?_ (hy:=by intro w hSw;(obtain ⟨s1,s2',s3⟩:=hSw);go_simp;try with_reducible rfl);refine' tkr 4 ?_ (hy:=by intro w hSw;(obtain ⟨s1,s2',s3⟩:=hSw);go_simp;try with_reducible rfl);refine' tkr 5 ?_ (hy:=by intro w hSw;(obtain ⟨s1,s2',s3⟩:=hSw);go_simp;try with_reducible rfl);refine H5a 6 (f:=199) (args:=#[.pointer (some ⟨i.gm,0,none⟩),.int .i64 v,.slice (some ⟨g,0,none⟩) j j]) rfl (by kernel_rfl) (by rfl) ?run6 ?call6
   case run6=>go_simp
   have ND:=hZ (NJ.out.ext' (Ext.drew (Ext.refl wr)));have KD:=hZ (KJ.out.ext (Ext.drew (Ext.refl wr)));refine (MN.out wr.drew ND.out KD.out.row).mono ?_;rintro e w8 ⟨rfl,pe8,ce8,pn8,cn8,K8,hM,hB,hD,hK⟩;have N8:=hZ (ND.out.made hM hB hD (fun b hb=>(hK b hb).imp id (fun e=>by rw [e];exact ⟨(KD.out.far g (.inr rfl)).1,(KD.out.far g (.inr rfl)).2.1⟩)));have b8:=(hB.cell (cell_lt KD.out.b0) (KD.out.far bb (.inl rfl)).2.2.1 0).trans KD.out.b0;have hB:=hZ hB;have hD:=hZ hD;have hK:=hZ hK;refine ⟨.int .i64 xr,rfl,⟨N8.out.k,N8.out.m,b8⟩, ?_⟩;clear hM MN k1 m1 b0;refine layy ?_;obtain ⟨w9,hup,hm9,ht9⟩:=N8.out.map.put (t:=119) underlying3 underlying119 (by have:=HFEW.out;unfold maxLen;simp only;omega) (a:=a) (x:=xr) (by omega) HBX.out.1 HBX.out.2;have B9:But [c.gk] w8 w9:=(But.refl _ _).turned ht9 (.inl (by simp));have N9:=hZ (N8.out.known_ B9 hm9);have b9:=(B9.cell (cell_lt b8) (by simpa using (KD.out.far bb (.inl rfl)).2.1) 0).trans b8;have hlk:=N9.out.map.look (t:=119) underlying3 underlying119 (zeroValue3 w9) (k:=a) (by omega);rw [M4a N8.out.map.up,H5c rfl] at hlk;simp only [B6c] at hlk;have k8:=N8.out.k;refine V4a 7 (w':=w9) rfl (by kernel_rfl) (by rfl) ?run7 ?s7 ?next7
   case run7=>go_simp
   case s7=>exact ⟨N9.out.k,N9.out.m,b9⟩
   case next7=>
   have HB9:=hZ B9;have k9:=N9.out.k;clear hup hm9 ht9 B9 k8 b8 b9;refine layy ?_;refine A0a (by kernel_rfl) ?_ _;intro w10 e10 _;subst e10
   go_wp2_with fail
   go_returns;have NE:=N9.out;rw [<- HSE.out.1,<- HSE.out.2] at NE;unfold m8a;rw [HRJ2.out];simp only [HXR.out,HS2.out];refine ⟨rfl,pe8,ce8,pn8,cn8,K8,NE, ?_,fun b hb=>?_,fun b hb=>?_⟩
   . have h1:But (c.gk :: i.dyn pe pn) w wr.drew:=KJ.out.but.ext (Ext.drew (Ext.refl wr));exact (h1.over hB.out fun x hx=>by
      rcases KJ.out.dyn x hx with h | h
      . exact .inl (u3b _ h)
      . exact .inr h).trans (HB9.out.mono fun x hx=>by rw [w8b.1 hx];simp)
   . rcases hD.out b hb with h | h
     . exact KJ.out.dyn b h
     exact .inr (G5c (G5c KJ.out.but.size (H0c _)) h)
   rcases hK.out b hb with h | h
   . exact KJ.out.kk b h
   exact .inr (by rw [h];exact KJ.out.new.2.1)
open Go.RowKit Go.Maps
theorem i1b {wb:World} {c:Cn} {i:Mkr} {L:DgL} {d:Nd.Dia} (hd:DgRd wb L d.sizes d.order d.ends d.nodes) (hin:CnIn d):∀ (n:Nat) (r:Int),d.Ref r n->n<=d.nodes.length -> ∀ (w:World) (s:Nd.Cl) (pe:Option Addr) (ce:Nat) (pn:Option Addr) (cn:Nat) (K:List (Nat × Nat)),CnSt wb w c i L d s pe ce pn cn K->Nd.ClIn d s ->
    Calls prog 196 (c.args r) w (m8a wb w c i L d (i.dyn pe pn) K (d.C3a (n+1) r s).1 (d.C3a (n+1) r s).2)
  | n,r,hr,hn,w,s,pe,ce,pn,cn,K,h,hcl=>by
   have few:=hcl.few;have h1:=hin.el;have h2:=hin.nl
   by_cases h0:r < 0
   . have:=cn_end hd h h0 hr.2 hin.ends h1 (by omega);have e:d.C3a (n+1) r s=Nd.mEnd (d.l7a (-1-r).toNat) s:=by rw [Nd.Dia.C3a,H5c h0]
     rw [e];exact this
   obtain ⟨a,rfl⟩:∃ a:Nat,r=(a:Int):=⟨r.toNat,by omega⟩
   have han:a < n:=by have:=hr.1;omega
   cases hk:getI a s.known with
   | some x=>
    have e:d.C3a (n+1) (a:Int) s=(x,s):=by rw [Nd.Dia.C3a,H4c h0,z5b,hk]
    rw [e];exact b9b h (by omega) hk
   | none=>
    obtain ⟨m,rfl⟩:∃ m,n=m+1:=⟨n-1,by omega⟩
    exact m9b hd hin h hcl (by omega) (by omega) hk fun r hr w s pe ce pn cn K=>i1b hd hin m r hr (by omega) w s pe ce pn cn K
def V1b (w:World) (z o:List Int) (e:Ending) (w':World):Prop:=
 ∃ (i:Mkr) (p2:Option Addr) (c2:Nat) (p3:Option Addr) (c3:Nat),e = .returned (.pointer (some ⟨i.gm,0,none⟩))/\MkSt w w' i [] [] none 0 none 0 []/\i.v2 = .slice p2 z.length c2/\i.v3 = .slice p3 o.length c3/\i.v6 = .int .i64 0/\SliceAt w' p2 c2 z/\SliceAt w' p3 c3 o /\
  ∀ b,b ∈ blk p2 \/ b ∈ blk p3->w.heap.size<=b/\b < w'.heap.size/\b ≠ i.gm/\b ≠ i.ge/\b ≠ i.gn
theorem l3b {W:World} {gm ge gn:Nat} {p3:Option Addr} {c2 c3:Nat} {f0 f1:Value} (t:TypeId) (hgm:gm=W.heap.size) (h:Ext w W) (he:IxAt 43 encV W ge ([]:List (Int × Int))) (hn:IxAt 204 encN W gn ([]:List (List Int))) (lo:w.heap.size<=ge/\w.heap.size<=gn) (hne:ge ≠ gn)
    (s2:SliceAt W p2 c2 z) (s3:SliceAt W p3 c3 o) (hb:∀ b,b ∈ blk p2 \/ b ∈ blk p3->w.heap.size<=b/\b < W.heap.size/\b ≠ ge/\b ≠ gn) :
    V1b w z o (.returned (.pointer (some ⟨gm,0,none⟩))) (W.alloc (.cells #[f0,f1,.slice p2 z.length c2,.slice p3 o.length c3,.slice none 0 0,.slice none 0 0,.int .i64 0,.map (some ge),.map (some gn)] t)):=by
  subst hgm;have k:Ext W (W.alloc (.cells #[f0,f1,.slice p2 z.length c2,.slice p3 o.length c3,.slice none 0 0,.slice none 0 0,.int .i64 0,.map (some ge),.map (some gn)] t)):=Ext.alloc (Ext.refl W) _;have ze:=he.lt;have zn:=hn.lt;have le:=h.le;have sz:(W.alloc (.cells #[f0,f1,.slice p2 z.length c2,.slice p3 o.length c3,.slice none 0 0,.slice none 0 0,.int .i64 0,.map (some ge),.map (some gn)] t)).heap.size=W.heap.size+1:=by simp
  refine ⟨⟨W.heap.size,ge,gn,f0,f1,.slice p2 z.length c2,.slice p3 o.length c3,.int .i64 0⟩,p2,c2,p3,c3,rfl, ?_,rfl,rfl,rfl,s2.ext k,s3.ext k,fun b hb'=>?_⟩
  . exact
      { ext:=h.trans k
        c:=⟨by go_simp,by go_simp,by go_simp,by go_simp,by go_simp,by go_simp,by go_simp,by go_simp,by go_simp,fun o=>by go_simp⟩
        e:=⟨he.ext k,RowN.nil _ _ _⟩
        n:=⟨hn.ext k,RowN.nil _ _ _,rfl,fun j q k h=>by simp at h⟩
        lo:=fun b hb=>by
         rw [sz];simp [Mkr.dyn,blk] at hb;omega
        nd:=⟨by simp only;omega,by simp only;omega,hne⟩
        ndp:=fun b hb=>by simp [blk] at hb
        ndn:=fun b hb=>by simp [blk] at hb
        ndk:=fun b hb=>by simp at hb }
  have:=hb b hb';rw [sz];refine ⟨this.1,by omega,by simp only;omega,this.2.2.1,this.2.2.2⟩
def vb:Value->List Nat
 | .slice p _ _=>blk p
 | .map (some g)=>[g]
 | _=>[]
structure NmK (w0:World) (z o:List Int) (f0 f1:Value) (L:Nat->Bool) (W:World) (v1 v2 v3 v4 v5 v6 v7 v8:Value):Prop where
 ext:Ext w0 W
 sz:L 3=true -> ∃ p c,v1 = .slice p z.length c/\SliceAt W p c z /\ ∀ b ∈ blk p,w0.heap.size<=b/\b < W.heap.size
 so:L 6=true -> ∃ p c,v2 = .slice p o.length c/\SliceAt W p c o /\ ∀ b ∈ blk p,w0.heap.size<=b/\b < W.heap.size
 d:L 7=true->L 3=true/\L 6=true/\v3 = .agg #[v1,v2,.slice none 0 0,.slice none 0 0,.int .i64 0]
 e:L 8=true -> ∃ g,v4 = .map (some g)/\w0.heap.size<=g/\IxAt 43 encV W g ([]:List (Int × Int))
 n:L 9=true -> ∃ g,v5 = .map (some g)/\w0.heap.size<=g/\IxAt 204 encN W g ([]:List (List Int))
 se:L 3=true->L 8=true -> ∀ b ∈ vb v1,b ∉ vb v4
 sn:L 3=true->L 9=true -> ∀ b ∈ vb v1,b ∉ vb v5
 oe:L 6=true->L 8=true -> ∀ b ∈ vb v2,b ∉ vb v4
 on:L 6=true->L 9=true -> ∀ b ∈ vb v2,b ∉ vb v5
 en:L 8=true->L 9=true -> ∀ b ∈ vb v4,b ∉ vb v5
 m:L 10=true->L 7=true/\L 8=true/\L 9=true/\v6 = .agg #[f0,f1,v1,v2,.slice none 0 0,.slice none 0 0,.int .i64 0,v4,v5]
 b:L 11=true->L 10=true/\V1b w0 z o (.returned v7) W
 a:L 12=true->L 11=true/\v8=v7
namespace NmK
variable {w0 W W':World} {z o:List Int} {f0 f1:Value} {L:Nat->Bool} {v1 v2 v3 v4 v5 v6 v7 v8:Value}
theorem lt1 (k:NmK w0 z o f0 f1 L W v1 v2 v3 v4 v5 v6 v7 v8) (h:L 3=true):∀ b ∈ vb v1,b < W.heap.size:=fun b hb=>by
 obtain ⟨p,c,rfl,_,h2⟩:=k.sz h
 exact (h2 b hb).2
theorem lt2 (k:NmK w0 z o f0 f1 L W v1 v2 v3 v4 v5 v6 v7 v8) (h:L 6=true):∀ b ∈ vb v2,b < W.heap.size:=fun b hb=>by
 obtain ⟨p,c,rfl,_,h2⟩:=k.so h
 exact (h2 b hb).2
theorem lt4 (k:NmK w0 z o f0 f1 L W v1 v2 v3 v4 v5 v6 v7 v8) (h:L 8=true):∀ b ∈ vb v4,b < W.heap.size:=fun b hb=>by
 obtain ⟨g,rfl,_,h2⟩:=k.e h
 rw [w8b.1 hb]
 exact h2.lt
theorem lt5 (k:NmK w0 z o f0 f1 L W v1 v2 v3 v4 v5 v6 v7 v8) (h:L 9=true):∀ b ∈ vb v5,b < W.heap.size:=fun b hb=>by
 obtain ⟨g,rfl,_,h2⟩:=k.n h
 rw [w8b.1 hb]
 exact h2.lt
theorem s' (k:NmK w0 z o f0 f1 L W v1 v2 v3 v4 v5 v6 v7 v8) (y:Ext W W') (h:L 3=true):∃ p c,v1 = .slice p z.length c/\SliceAt W' p c z /\ ∀ b ∈ blk p,w0.heap.size<=b/\b < W'.heap.size:=by
 obtain ⟨p,c,e,h1,h2⟩:=k.sz h
 exact ⟨p,c,e,h1.ext y,fun b hb=>⟨(h2 b hb).1,x4b (h2 b hb).2 y.le⟩⟩
theorem o' (k:NmK w0 z o f0 f1 L W v1 v2 v3 v4 v5 v6 v7 v8) (y:Ext W W') (h:L 6=true):∃ p c,v2 = .slice p o.length c/\SliceAt W' p c o /\ ∀ b ∈ blk p,w0.heap.size<=b/\b < W'.heap.size:=by
 obtain ⟨p,c,e,h1,h2⟩:=k.so h
 exact ⟨p,c,e,h1.ext y,fun b hb=>⟨(h2 b hb).1,x4b (h2 b hb).2 y.le⟩⟩
theorem e' (k:NmK w0 z o f0 f1 L W v1 v2 v3 v4 v5 v6 v7 v8) (y:Ext W W') (h:L 8=true):∃ g,v4 = .map (some g)/\w0.heap.size<=g/\IxAt 43 encV W' g ([]:List (Int × Int)):=by
 obtain ⟨g,e,h1,h2⟩:=k.e h
 exact ⟨g,e,h1,h2.ext y⟩
theorem n' (k:NmK w0 z o f0 f1 L W v1 v2 v3 v4 v5 v6 v7 v8) (y:Ext W W') (h:L 9=true):∃ g,v5 = .map (some g)/\w0.heap.size<=g/\IxAt 204 encN W' g ([]:List (List Int)):=by
 obtain ⟨g,e,h1,h2⟩:=k.n h
 exact ⟨g,e,h1,h2.ext y⟩
theorem no {p:Prop} {a:Bool} (h0:a=false) (h:a=true):p:=by rw [h0] at h;cases h
theorem step3 (k:NmK w0 z o f0 f1 L W v1 v2 v3 v4 v5 v6 v7 v8) (hL:L 3=false) (y:Ext W W') (hs:SliceAt W' p c z) (hb:∀ b ∈ blk p,W.heap.size<=b/\b < W'.heap.size):NmK w0 z o f0 f1 (also L 3) W' (.slice p z.length c) v2 v3 v4 v5 v6 v7 v8:=
 ⟨k.ext.trans y,fun _=>⟨p,c,rfl,hs,fun b h=>⟨G5c k.ext.le (hb b h).1,(hb b h).2⟩⟩,k.o' y,fun h=>no hL (k.d h).1,k.e' y,k.n' y,fun _ h b hb' hm=>by have:=k.lt4 h b hm;have:=(hb b hb').1;omega,fun _ h b hb' hm=>by have:=k.lt5 h b hm;have:=(hb b hb').1;omega,k.oe,k.on,k.en,fun h=>no hL (k.d (k.m h).1).1,fun h=>no hL (k.d (k.m (k.b h).1).1).1,k.a⟩
theorem step6 (k:NmK w0 z o f0 f1 L W v1 v2 v3 v4 v5 v6 v7 v8) (hL:L 6=false) (y:Ext W W') (hs:SliceAt W' p c o) (hb:∀ b ∈ blk p,W.heap.size<=b/\b < W'.heap.size):NmK w0 z o f0 f1 (also L 6) W' v1 (.slice p o.length c) v3 v4 v5 v6 v7 v8:=
 ⟨k.ext.trans y,k.s' y,fun _=>⟨p,c,rfl,hs,fun b h=>⟨G5c k.ext.le (hb b h).1,(hb b h).2⟩⟩,fun h=>no hL (k.d h).2.1,k.e' y,k.n' y,k.se,k.sn,fun _ h b hb' hm=>by have:=k.lt4 h b hm;have:=(hb b hb').1;omega,fun _ h b hb' hm=>by have:=k.lt5 h b hm;have:=(hb b hb').1;omega,k.en,fun h=>no hL (k.d (k.m h).1).2.1,fun h=>no hL (k.d (k.m (k.b h).1).1).2.1,k.a⟩
theorem n2b (k:NmK w0 z o f0 f1 L W v1 v2 v3 v4 v5 v6 v7 v8) (h3:L 3=true) (h6:L 6=true):NmK w0 z o f0 f1 (also L 7) W v1 v2 (.agg #[v1,v2,.slice none 0 0,.slice none 0 0,.int .i64 0]) v4 v5 v6 v7 v8:=
 ⟨k.ext,k.sz,k.so,fun _=>⟨h3,h6,rfl⟩,k.e,k.n,k.se,k.sn,k.oe,k.on,k.en,fun h=>⟨rfl,(k.m h).2⟩,k.b,k.a⟩
theorem W8b (k:NmK w0 z o f0 f1 L W v1 v2 v3 v4 v5 v6 v7 v8) (hL:L 8=false):NmK w0 z o f0 f1 (also L 8) (W.alloc (.map #[] 0)) v1 v2 v3 (.map (some W.heap.size)) v5 v6 v7 v8:=by
 have y:Ext W (W.alloc (.map #[] 0)):=Ext.alloc (Ext.refl W) _
 exact ⟨k.ext.trans y,k.s' y,k.o' y,k.d,fun _=>⟨_,rfl,k.ext.le,IxAt.made W⟩,k.n' y,fun h _ b hb hm=>by have:=k.lt1 h b hb;rw [w8b.1 hm] at this;omega,k.sn,fun h _ b hb hm=>by have:=k.lt2 h b hb;rw [w8b.1 hm] at this;omega,k.on,fun _ h b hb hm=>by have:=k.lt5 h b hm;rw [w8b.1 hb] at this;omega,fun h=>no hL (k.m h).2.1,fun h=>no hL (k.m (k.b h).1).2.1,k.a⟩
theorem k6b (k:NmK w0 z o f0 f1 L W v1 v2 v3 v4 v5 v6 v7 v8) (hL:L 9=false):NmK w0 z o f0 f1 (also L 9) (W.alloc (.map #[] 0)) v1 v2 v3 v4 (.map (some W.heap.size)) v6 v7 v8:=by
 have y:Ext W (W.alloc (.map #[] 0)):=Ext.alloc (Ext.refl W) _
 exact ⟨k.ext.trans y,k.s' y,k.o' y,k.d,k.e' y,fun _=>⟨_,rfl,k.ext.le,IxAt.made W⟩,k.se,fun h _ b hb hm=>by have:=k.lt1 h b hb;rw [w8b.1 hm] at this;omega,k.oe,fun h _ b hb hm=>by have:=k.lt2 h b hb;rw [w8b.1 hm] at this;omega,fun h _ b hb hm=>by have:=k.lt4 h b hb;rw [w8b.1 hm] at this;omega,fun h=>no hL (k.m h).2.2.1,fun h=>no hL (k.m (k.b h).1).2.2.1,k.a⟩
theorem Q4b (k:NmK w0 z o f0 f1 L W v1 v2 v3 v4 v5 v6 v7 v8) (hL:L 10=false) (h7:L 7=true) (h8:L 8=true) (h9:L 9=true):NmK w0 z o f0 f1 (also L 10) W v1 v2 v3 v4 v5 (.agg #[f0,f1,v1,v2,.slice none 0 0,.slice none 0 0,.int .i64 0,v4,v5]) v7 v8:=
 ⟨k.ext,k.sz,k.so,k.d,k.e,k.n,k.se,k.sn,k.oe,k.on,k.en,fun _=>⟨h7,h8,h9,rfl⟩,fun h=>no hL (k.b h).1,k.a⟩
theorem u0a (k:NmK w0 z o f0 f1 L W v1 v2 v3 v4 v5 v6 v7 v8) (hL:L 11=false) (h10:L 10=true) (t:TypeId):NmK w0 z o f0 f1 (also L 11) (W.alloc (.cells #[f0,f1,v1,v2,.slice none 0 0,.slice none 0 0,.int .i64 0,v4,v5] t)) v1 v2 v3 v4 v5 v6 (.pointer (some ⟨W.heap.size,0,none⟩)) v8:=by
 have y:Ext W (W.alloc (.cells #[f0,f1,v1,v2,.slice none 0 0,.slice none 0 0,.int .i64 0,v4,v5] t)):=Ext.alloc (Ext.refl W) _
 refine ⟨k.ext.trans y,k.s' y,k.o' y,k.d,k.e' y,k.n' y,k.se,k.sn,k.oe,k.on,k.en,k.m,fun _=>⟨h10, ?_⟩,fun h=>no hL (k.a h).1⟩
 obtain ⟨h7,h8,h9,_⟩:=k.m h10
 obtain ⟨h3,h6,_⟩:=k.d h7
 have a1:=k.se h3 h8
 have a2:=k.sn h3 h9
 have a3:=k.oe h6 h8
 have a4:=k.on h6 h9
 have a5:=k.en h8 h9
 obtain ⟨p,c,rfl,s1,s2⟩:=k.sz h3
 obtain ⟨p',c',rfl,o1,o2⟩:=k.so h6
 obtain ⟨g,rfl,e1,e2⟩:=k.e h8
 obtain ⟨g',rfl,n1,n2⟩:=k.n h9
 simp only [vb,w8b] at a1 a2 a3 a4 a5
 refine l3b t rfl k.ext e2 n2 ⟨e1,n1⟩ (a5 g rfl) s1 o1 fun b hb=>?_
 rcases hb with hb | hb
 . exact ⟨(s2 b hb).1,(s2 b hb).2,a1 b hb,a2 b hb⟩
 exact ⟨(o2 b hb).1,(o2 b hb).2,a3 b hb,a4 b hb⟩
theorem R4b (k:NmK w0 z o f0 f1 L W v1 v2 v3 v4 v5 v6 v7 v8) (h11:L 11=true):NmK w0 z o f0 f1 (also L 12) W v1 v2 v3 v4 v5 v6 v7 v7:=
 ⟨k.ext,k.sz,k.so,k.d,k.e,k.n,k.se,k.sn,k.oe,k.on,k.en,k.m,k.b,fun _=>⟨h11,rfl⟩⟩
end NmK
theorem x4a {d:Nat} (hs:SliceAt w p c z) (ho:SliceAt w q d o) (hz:z.length<=1000000) (hol:o.length<=1000000) :
    Calls prog 195 #[.agg #[.slice p z.length c,.slice q o.length d]] w fun e w'=>∃ v,e = .returned v /\ ∃ w1,Ext w w1/\V1b w1 z o (.returned v) w':=by
  have CS:=hZ (fun W (hE:Ext w W)=>o4a (hs.ext hE) hz);have CO:=hZ (fun W (hE:Ext w W)=>o4a (ho.ext hE) hol);clear hs ho;have mixed:prog.follows .mixedOrders=true:=by kernel_rfl
  have hmm:=@run_makeMap prog;generalize hzl:z.length=n1 at CS ⊢;generalize hoo:o.length=n2 at CO ⊢;have HZ:=hZ hzl;have HO:=hZ hoo;clear hzl hoo;go_enter func195,ntmps195;go_upto_region 1 with fail
  refine B0a (F:=fun W=>Hid (Ext w W)/\W.cell? ⟨w.heap.size,0,none⟩=some (.slice p n1 c)/\W.cell? ⟨w.heap.size,1,none⟩=some (.slice q n2 d)) ⟨hZ (exx),by go_simp,by go_simp⟩ ?_;intro w1 ⟨E1,g0,g1⟩;generalize w.heap.size=gf at g0 g1 ⊢;have zf:=cell_lt g0;have PR58:=hZ (fun (ww:World) (hSw:Ext w1 ww)=>And.intro (hSw.q g0) (hSw.q g1));refine wp_region_held_drew (S:=fun W=>Ext w1 W) (by kernel_rfl) ?_ (fun hS=>?_)
  . exact exx
  skip
  refine' wpAnyH_take (i:=0) (v:=?v0_1545) rfl (by kernel_rfl) (by kernel_rfl) (by kernel_rfl) (fun _ _ _ h=>h) (Or.inl ⟨by rfl, ?hy0_1545⟩) (by assumption) ?rest0_1545
  case hy0_1545=>(intro w q;obtain ⟨g0',g1'⟩:=PR58.out w q;go_simp;try with_reducible rfl)
  refine layy ?_;refine' wpAnyH_take (i:=1) (v:=?v1_1546) rfl (by kernel_rfl) (by kernel_rfl) (by kernel_rfl) (fun _ _ _ h=>h) (Or.inl ⟨by rfl, ?hy1_1546⟩) (by assumption) ?rest1_1546
  case hy1_1546=>(intro w q;obtain ⟨g0',g1'⟩:=PR58.out w q;go_simp;try with_reducible rfl)
  refine layy ?_;refine' wpAnyH_take (i:=2) (v:=?v2_1547) rfl (by kernel_rfl) (by kernel_rfl) (by kernel_rfl) (fun _ _ _ h=>h) (Or.inl ⟨by rfl, ?hy2_1547⟩) (by assumption) ?rest2_1547
  case hy2_1547=>(intro w q;obtain ⟨g0',g1'⟩:=PR58.out w q;go_simp;try with_reducible rfl)
  refine layy ?_;refine' wpAnyH_take (i:=4) (v:=?v4_1548) rfl (by kernel_rfl) (by kernel_rfl) (by kernel_rfl) (fun _ _ _ h=>h) (Or.inl ⟨by rfl, ?hy4_1548⟩) (by assumption) ?rest4_1548
  case hy4_1548=>(intro w q;obtain ⟨g0',g1'⟩:=PR58.out w q;go_simp;try with_reducible rfl)
  refine layy ?_;refine' wpAnyH_take (i:=5) (v:=?v5_1549) rfl (by kernel_rfl) (by kernel_rfl) (by kernel_rfl) (fun _ _ _ h=>h) (Or.inl ⟨by rfl, ?hy5_1549⟩) (by assumption) ?rest5_1549
  case hy5_1549=>(intro w q;obtain ⟨g0',g1'⟩:=PR58.out w q;go_simp;try with_reducible rfl)
  refine layy ?_;refine T2a [3,6,7,8,9,10,11,12] [6,9,10,11,12,13,14,2] (fun L vs W=>∃ v1 v2 v3 v4 v5 v6 v7 v8:Value,vs=[v1,v2,v3,v4,v5,v6,v7,v8]/\Ext w1 W/\NmK w1 z o (.slice p n1 c) (.slice q n2 d) L W v1 v2 v3 v4 v5 v6 v7 v8) (by kernel_rfl) (by kernel_rfl) ?h0 ?hsteps ?hend
  case h0=>exact ⟨_,_,_,_,_,_,_,_,rfl,hS,⟨hS,fun h=>(by cases h),fun h=>(by cases h),fun h=>(by cases h),fun h=>(by cases h),fun h=>(by cases h),fun h=>(by cases h),fun h=>(by cases h),fun h=>(by cases h),fun h=>(by cases h),fun h=>(by cases h),fun h=>(by cases h),fun h=>(by cases h),fun h=>(by cases h)⟩⟩
  case hsteps=>
   refine B2a.cons rfl ?_ (B2a.cons rfl ?_ (B2a.cons rfl ?_ (B2a.cons rfl ?_ (B2a.cons rfl ?_ (B2a.cons rfl ?_ (B2a.cons rfl ?_ (B2a.cons rfl ?_ B2a.nil)))))))
   all_goals (try simp only [u2b,s3b,s4b])
   all_goals
    rintro L a w ⟨vs,ha,v1,v2,v3,v4,v5,v6,v7,v8,rfl,hE,J⟩ hL hC;obtain rfl:=ha;intro K' hK
    (try simp only [T9a,Act.put,q2b,w6b,w7b])
   . go_simp
     go_at_call 60
     refine (CS.out _ (E1.out.trans hE)).mono ?_;rintro e x ⟨p2,c2,rfl,hS2,y,hb2⟩
     go_wp2_with fail
     exact hK.out _ _ (hE.trans y) ⟨[.slice p2 n1 c2,v2,v3,v4,v5,v6,v7,v8],rfl,_,_,_,_,_,_,_,_,rfl,hE.trans y,by have:=J.step3 hL y hS2 hb2;rw [HZ.out] at this;exact this⟩
   . go_simp
     go_at_call 60
     refine (CO.out _ (E1.out.trans hE)).mono ?_;rintro e x ⟨p2,c2,rfl,hS2,y,hb2⟩
     go_wp2_with fail
     exact hK.out _ _ (hE.trans y) ⟨[v1,.slice p2 n2 c2,v3,v4,v5,v6,v7,v8],rfl,_,_,_,_,_,_,_,_,rfl,hE.trans y,by have:=J.step6 hL y hS2 hb2;rw [HO.out] at this;exact this⟩
   . have h3:L 3=true:=hC ⟨3,.data⟩ (by simp) rfl;have h6:L 6=true:=hC ⟨6,.data⟩ (by simp) rfl;have J7:=J.n2b h3 h6;obtain ⟨p2,c2,rfl,-⟩:=J.sz h3;obtain ⟨p3,c3,rfl,-⟩:=J.so h6;go_simp;exact hK.out _ _ hE ⟨[_,_,_,v4,v5,v6,v7,v8],rfl,_,_,_,_,_,_,_,_,rfl,hE,J7⟩
   . go_simp;exact hK.out _ _ (hE.alloc _) ⟨[v1,v2,v3,.map (some w.heap.size),v5,v6,v7,v8],rfl,_,_,_,_,_,_,_,_,rfl,hE.alloc _,J.W8b hL⟩
   . go_simp;exact hK.out _ _ (hE.alloc _) ⟨[v1,v2,v3,v4,.map (some w.heap.size),v6,v7,v8],rfl,_,_,_,_,_,_,_,_,rfl,hE.alloc _,J.k6b hL⟩
   . have h7:L 7=true:=hC ⟨7,.data⟩ (by simp) rfl;have h8:L 8=true:=hC ⟨8,.data⟩ (by simp) rfl;have h9:L 9=true:=hC ⟨9,.data⟩ (by simp) rfl;have J10:=J.Q4b hL h7 h8 h9;obtain ⟨h3,h6,rfl⟩:=J.d h7;obtain ⟨p2,c2,rfl,-⟩:=J.sz h3;obtain ⟨p3,c3,rfl,-⟩:=J.so h6;obtain ⟨ge,rfl,-⟩:=J.e h8;obtain ⟨gn,rfl,-⟩:=J.n h9;go_simp;exact hK.out _ _ hE ⟨[_,_,_,_,_,_,v7,v8],rfl,_,_,_,_,_,_,_,_,rfl,hE,J10⟩
   . have h10:L 10=true:=hC ⟨10,.data⟩ (by simp) rfl;have J11:=J.u0a hL h10 192;obtain ⟨h7,h8,h9,rfl⟩:=J.m h10;go_simp;exact hK.out _ _ (hE.alloc _) ⟨[_,_,_,_,_,_,.pointer (some ⟨w.heap.size,0,none⟩),v8],rfl,_,_,_,_,_,_,_,_,rfl,hE.alloc _,J11⟩
   have h11:L 11=true:=hC ⟨11,.data⟩ (by simp) rfl;go_simp;exact hK.out _ _ hE ⟨[v1,v2,v3,v4,v5,v6,v7,v7],rfl,_,_,_,_,_,_,_,_,rfl,hE,J.R4b h11⟩
  rintro L _ w9 ⟨v1,v2,v3,v4,v5,v6,v7,v8,rfl,E9,J⟩ hall;obtain ⟨h11,rfl⟩:=J.a (hall 12 (by simp));have HP:=hZ (J.b h11).2;clear J hall h11 hS;simp only [T9a,Act.put,q2b,w6b,w7b]
  go_wp2_with fail
  go_returns;exact ⟨_,rfl,w1,E1.out,HP.out⟩
end Go.Proofs.YtdokmmhjmclmnaaGreat
