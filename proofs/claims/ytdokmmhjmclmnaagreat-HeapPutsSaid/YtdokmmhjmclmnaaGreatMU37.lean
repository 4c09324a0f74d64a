/- Part 37 of a proof. -/
import Derived.Test.YtdokmmhjmclmnaaGreatMU32
import Derived.Test.YtdokmmhjmclmnaaGreatMU36
set_option linter.unusedSimpArgs false
set_option linter.unusedVariables false
set_option linter.unusedSectionVars false
set_option linter.unnecessarySimpa false
set_option maxHeartbeats 16000000
set_option maxRecDepth 100000
namespace Go.Proofs.YtdokmmhjmclmnaaGreat
open Go.Proofs.Tryz
variable {W' w w' w0 wb:World} {B a b bx c ca cap ce cn f g i j k lb m n qc:Nat} {choice e t x:Int} {A W fs ks l o z:List Int} {D T Y:List Nat} {p p2 pa pe pn q:Option Addr} {d:Hd} {S S':Hp.Hs} {r:Rd} {L:List Hp.Tl} {M:List (Nat × Int)} {s:Hp.Sc}
open Go.RowKit Go.Maps
def e8b (w:World) (p q:Option Addr) (S:Hp.Hs) (e:Ending) (w':World):Prop:=∃ r:Rd,e = .returned (.pointer (some ⟨r.rb,0,none⟩))/\RW w' r S/\(∀ b ∈ r.own,w.heap.size<=b)/\Ext w w'/\r.sp=p/\r.op=q
theorem rNew {d:Nat} (hs:SliceAt w p c z) (ho:SliceAt w q d o) (h20:20<=n) (hn:n<=100000) (hS:Hp.new z o n=some S) :
    Calls prog 32 #[.slice p z.length c,.slice q o.length d,.int .i64 n] w (e8b w p q S):=by
  have HS:=hZ hs;have HO:=hZ ho;have ES:S=⟨z,o,((List.replicate n 0).set 16 17).set 18 ((n:Int)-17),[]⟩:=by
   unfold Hp.new at hS;simp only [Hp.wr,v9b,s0b,C9c,z7b] at hS;obtain ⟨W1,h1,W2,h2,rfl⟩:=hS;rw [H5c (by simp;omega)] at h1
   cases h1
   rw [H5c (by simp;omega)] at h2
   cases h2
   rfl
  subst ES;clear hs ho hS;have hmk:=run_make_row' (P:=prog) 22 3 (.int .i64 0) 8 underlying22 (show (prog.info? 3).map (fun i=>(i.zero,i.size,i.bytes))=some (some (.int .i64 0),1,8) from by kernel_rfl) rfl .i64 .i64 n (by omega) (by omega);go_enter func32,ntmps32;go_upto_region 2 with fail
  have EA:Ext w (w.alloc (.cells (madeCells #[.int .i64 0] n) 3)):=Ext.alloc (Ext.refl _) _;have EB:Ext (w.alloc (.cells (madeCells #[.int .i64 0] n) 3)) ((w.alloc (.cells (madeCells #[.int .i64 0] n) 3)).alloc (.cells #[.slice p z.length c,.slice q o.length d,.slice (some ⟨w.heap.size,0,none⟩) n n] 54)):=Ext.alloc (Ext.refl _) _;have W0:=(V0a w n).ext EB
  have hc:((w.alloc (.cells (madeCells #[.int .i64 0] n) 3)).alloc (.cells #[.slice p z.length c,.slice q o.length d,.slice (some ⟨w.heap.size,0,none⟩) n n] 54)).cell? ⟨w.heap.size+1,0,none⟩=some (.slice p z.length c) /\
      ((w.alloc (.cells (madeCells #[.int .i64 0] n) 3)).alloc (.cells #[.slice p z.length c,.slice q o.length d,.slice (some ⟨w.heap.size,0,none⟩) n n] 54)).cell? ⟨w.heap.size+1,1,none⟩=some (.slice q o.length d) /\
      ((w.alloc (.cells (madeCells #[.int .i64 0] n) 3)).alloc (.cells #[.slice p z.length c,.slice q o.length d,.slice (some ⟨w.heap.size,0,none⟩) n n] 54)).cell? ⟨w.heap.size+1,2,none⟩=some (.slice (some ⟨w.heap.size,0,none⟩) n n) /\
      ((w.alloc (.cells (madeCells #[.int .i64 0] n) 3)).alloc (.cells #[.slice p z.length c,.slice q o.length d,.slice (some ⟨w.heap.size,0,none⟩) n n] 54)).frozen? ⟨w.heap.size+1,2,none⟩=false:=by
    refine ⟨?_, ?_, ?_, ?_⟩ <;> go_simp
  have E2:=hZ (EA.trans EB);generalize (w.alloc (.cells (madeCells #[.int .i64 0] n) 3)).alloc (.cells #[.slice p z.length c,.slice q o.length d,.slice (some ⟨w.heap.size,0,none⟩) n n] 54)=w1 at W0 hc E2 ⊢
  have N0:=hZ (RNow.refl (r:=⟨w.heap.size+1,p,c,q,d,w.heap.size,0,n⟩) (S:=⟨z,o,List.replicate n 0,[]⟩) (w:=w1)
   { c0:=hc.1,c1:=hc.2.1,c2:=by rw [hc.2.2.1];simp,f2:=hc.2.2.2,sizes:=HS.out.ext E2.out,order:=HO.out.ext E2.out,words:=W0,le:=by simp,cap:=by show n<=_;omega,go:=rfl,apart:=by show w.heap.size+1 ≠ w.heap.size;omega
     far1:=fun h0 b o e hm=>by
      obtain ⟨b',o',e',hb,_⟩:=HS.out.cells h0;have e:p=some ⟨b,o,none⟩:=e;rw [e'] at e
      cases e
      simp [Rd.own] at hm;omega
     far2:=fun h0 b o e hm=>by
      obtain ⟨b',o',e',hb,_⟩:=HO.out.cells h0;have e:q=some ⟨b,o,none⟩:=e;rw [e'] at e
      cases e
      simp [Rd.own] at hm;omega })
  obtain ⟨gb,hgb⟩:∃ gb,w.heap.size=gb:=⟨_,rfl⟩
  have EG:=hZ hgb;rw [hgb] at N0 ⊢;clear hc W0 EA EB hgb hmk;have c2:=RNow.len (S:=⟨z,o,[],[]⟩) (V:=List.replicate n 0) N0.out (n:=n) (by simp);have z1:=N0.out.toRW.lt;have z2:=N0.out.words.lt;have g0:=RNow.word (S:=⟨z,o,[],[]⟩) (V:=List.replicate n 0) N0.out (j:=16) (x:=_) (by simp;omega) rfl;have fr:=N0.out.words.froz 16;have N1:=hZ (N0.out.set (j:=16) (v:=17) (by simp;omega) (by omega) (by omega));simp only [] at c2 z1 z2 g0 fr;have t16:16 < n:=by omega
  have t18:18 < n:=by omega
  go_upto_region 3 with fail
  refine RNow.cut N1.out ?_;intro w2 N2';have N2:=hZ N2';clear c2 z1 z2 g0 fr N1 N2' N0;have c2:=RNow.len (S:=⟨z,o,[],[]⟩) (V:=(List.replicate n 0).set 16 17) N2.out (n:=n) (by simp);have z1:=N2.out.toRW.lt;have z2:=N2.out.words.lt;have g0:=RNow.word (S:=⟨z,o,[],[]⟩) (V:=(List.replicate n 0).set 16 17) N2.out (j:=18) (x:=_) (by simp;omega) rfl;have fr:=N2.out.words.froz 18;have wn:IntKind.i64.wrap ((n:Int)-17)=(n:Int)-17:=E4c _ (by omega);have N3:=hZ (N2.out.set (j:=18) (v:=(n:Int)-17) (by simp;omega) (by omega) (by omega));simp only [] at c2 z1 z2 g0 fr
  go_wp2_with fail
  go_returns;refine ⟨_,rfl,N3.out.toRW,fun b hb=>?_,N3.out.but.D3a E2.out fun b hb=>?_,rfl,rfl⟩
  . have:=EG.out;simp [Rd.own] at hb;omega
  have:=EG.out;simp [Rd.own] at hb;omega
structure PlAt (wb w:World) (r:Rd) (s:Hp.Sc) (p1:Option Addr) (k1:Nat) (p2:Option Addr) (k2:Nat):Prop extends RW w r s.S where
 own0:∀ b ∈ r.own,wb.heap.size<=b
 ext0:Ext wb w
 r1:Row w 0 p1 k1 s.res
 r2:Row w 0 p2 k2 s.ats
 n1:∀ b o,p1=some ⟨b,o,none⟩->wb.heap.size<=b/\b ∉ r.own
 n2:∀ b o,p2=some ⟨b,o,none⟩->wb.heap.size<=b/\b ∉ r.own
 n12:∀ b o b' o',p1=some ⟨b,o,none⟩->p2=some ⟨b',o',none⟩->b ≠ b'
 sp0:0 < s.S.sizes.length -> ∀ b o,r.sp=some ⟨b,o,none⟩->b < wb.heap.size
 op0:0 < s.S.order.length -> ∀ b o,r.op=some ⟨b,o,none⟩->b < wb.heap.size
theorem Row.base0 {base:Nat} (h:Row w base p c l):Row w 0 p c l:=by
 refine ⟨⟨h.1.1, ?_⟩,h.2⟩
 rcases h.1.2 with e | ⟨g,cap,cur,e,h1,r⟩
 . exact .inl e
 exact .inr ⟨g,cap,cur,e,G9c _,r⟩
theorem RW.but' (h:RW w r S) {l:List Nat} (k:But l w w') (h0:r.rb ∉ l) (h1:r.gb ∉ l) (h3:0 < S.sizes.length -> ∀ b o,r.sp=some ⟨b,o,none⟩->b ∉ l) (h4:0 < S.order.length -> ∀ b o,r.op=some ⟨b,o,none⟩->b ∉ l):RW w' r S:=
 { h with
   c0:=(k.cell h.lt h0 0).trans h.c0
   c1:=(k.cell h.lt h0 1).trans h.c1
   c2:=(k.cell h.lt h0 2).trans h.c2
   f2:=(k.frozen h.lt h0 2).trans h.f2
   sizes:=h.sizes.but1 k h3
   order:=h.order.but1 k h4
   words:=h.words.but k h1 }
namespace PlAt
variable {wb w w':World} {r r':Rd} {s:Hp.Sc} {p1 p2:Option Addr} {k1 k2:Nat}
theorem ext (h:PlAt wb w r s p1 k1 p2 k2) (k:Ext w w'):PlAt wb w' r s p1 k1 p2 k2:=
 { h with
   toRW:=h.toRW.ext k
   ext0:=h.ext0.trans k
   r1:=h.r1.ext k
   r2:=h.r2.ext k }
theorem le0 (h:PlAt wb w r s p1 k1 p2 k2):wb.heap.size<=w.heap.size:=h.ext0.le
theorem turn (h:PlAt wb w r s p1 k1 p2 k2) (k:But r.own w w') (h':RW w' r' S') (hr:r'.rb=r.rb) (hg:r'.gb=r.gb \/ w.heap.size<=r'.gb) (hp:r'.sp=r.sp) (ho:r'.op=r.op) (es:S'.sizes=s.S.sizes) (eo:S'.order=s.S.order):PlAt wb w' r' { s with S:=S' } p1 k1 p2 k2:=by
 have e0:=h.le0
 have own:∀ b ∈ r'.own,b ∈ r.own \/ w.heap.size<=b:=fun b hb=>by
  simp only [Rd.own,E6c,A9c,or_false] at hb ⊢
  rcases hb with rfl | rfl
  . exact .inl (.inl hr)
  rcases hg with hg | hg
  . exact .inl (.inr hg)
  exact .inr hg
 have f1:∀ {p:Option Addr} {c:Nat} {l:List Int},Row w 0 p c l -> ∀ b o,p=some ⟨b,o,none⟩->b ∉ r.own->b ∉ r'.own:=fun hR b o e hn hm=>by
  rcases own b hm with hm | hm
  . exact hn hm
  have:=hR.lt e;omega
 exact
  { toRW:=h'
    own0:=fun b hb=>by
     rcases own b hb with hm | hm
     . exact h.own0 b hm
     omega
    ext0:=But.D3a h.ext0 k h.own0
    r1:=h.r1.but_ k (fun b o e=>(h.n1 b o e).2)
    r2:=h.r2.but_ k (fun b o e=>(h.n2 b o e).2)
    n1:=fun b o e=>⟨(h.n1 b o e).1,f1 h.r1 b o e (h.n1 b o e).2⟩
    n2:=fun b o e=>⟨(h.n2 b o e).1,f1 h.r2 b o e (h.n2 b o e).2⟩
    n12:=h.n12
    sp0:=by rw [hp];show 0 < S'.sizes.length->_;rw [es];exact h.sp0
    op0:=by rw [ho];show 0 < S'.order.length->_;rw [eo];exact h.op0 }
theorem turned (h:PlAt wb w r s p1 k1 p2 k2) (k:RNow w w' r S') (es:S'.sizes=s.S.sizes) (eo:S'.order=s.S.order):PlAt wb w' r { s with S:=S' } p1 k1 p2 k2:=
 h.turn k.but k.toRW rfl (.inl rfl) rfl rfl es eo
theorem ats_ (h:PlAt wb w r s p1 k1 p2 k2) {base:Nat} (hb:∀ b o,p1=some ⟨b,o,none⟩->b < base) (ho:∀ b ∈ r.own,b < base) (hB:wb.heap.size<=base) (hR:Row w base p c l):PlAt wb w r { s with ats:=l } p1 k1 p c:=
 { h with
   r2:=hR.base0
   n2:=fun b o e=>by
    have:=hR.far e;exact ⟨by omega,fun hm=>by have:=ho b hm;omega⟩
   n12:=fun b o b' o' e e'=>by
    have:=hb b o e;have:=hR.far e';omega }
theorem grow_ (h:PlAt wb w r s p1 k1 p2 k2) {g:Nat} {row:Option Nat} (hG:w.grownBy w' row) (hrow:∀ q,row=some q->p1=some ⟨q,0,none⟩ \/ p2=some ⟨q,0,none⟩):RW w' r s.S/\Ext wb w':=by
 have kb:But row.toList w w':=⟨hG.os,hG.tape,hG.output,hG.size,fun i hi hn=>hG.block i hi (fun e=>hn (by rw [<- e];simp))⟩
 have mem:∀ b ∈ row.toList,wb.heap.size<=b/\b ∉ r.own:=fun b hm=>by
  have e:row=some b:=by simpa using hm
  rcases hrow b e with e | e
  . exact h.n1 b 0 e
  exact h.n2 b 0 e
 refine ⟨h.toRW.but' kb (fun hm=>(mem _ hm).2 r.S8a) (fun hm=>(mem _ hm).2 r.Y3a) (fun h0 b o e hm=>by have:=(mem b hm).1;have:=h.sp0 h0 b o e;omega) (fun h0 b o e hm=>by have:=(mem b hm).1;have:=h.op0 h0 b o e;omega), ?_⟩
 exact But.D3a h.ext0 kb fun b hb=>(mem b hb).1
theorem J5b (h:PlAt wb w r s p1 k1 p2 k2) {row:Option Nat} (hR:Row w' 0 (some ⟨g,0,none⟩) cap l) (hG:w.grownBy w' row) (hrow:∀ q,row=some q->p1=some ⟨q,0,none⟩) (hg:p1=some ⟨g,0,none⟩ \/ g=w.heap.size) :
    PlAt wb w' r { s with res:=l } (some ⟨g,0,none⟩) cap p2 k2:=by
  obtain ⟨a1,a2⟩:=h.grow_ (g:=g) hG (fun q e=>.inl (hrow q e));have own:=h.toRW.D1a;have e0:=h.le0;have kb:But row.toList w w':=⟨hG.os,hG.tape,hG.output,hG.size,fun i hi hn=>hG.block i hi (fun e=>hn (by rw [<- e];simp))⟩
  exact
   { toRW:=a1,own0:=h.own0,ext0:=a2,r1:=hR
     r2:=h.r2.but_ kb (fun b o e hm=>by
      have e':row=some b:=by simpa using hm
      exact h.n12 b 0 b o (hrow b e') e rfl)
     n1:=fun b o e=>by
      cases e
      rcases hg with hg | hg
      . exact h.n1 g 0 hg
      exact ⟨by omega,fun hm=>by have:=own g hm;omega⟩
     n2:=h.n2
     n12:=fun b o b' o' e e'=>by
      cases e
      rcases hg with hg | hg
      . exact h.n12 g 0 b' o' hg e'
      have:=h.r2.lt e';omega
     sp0:=h.sp0,op0:=h.op0 }
theorem M9b (h:PlAt wb w r s p1 k1 p2 k2) {row:Option Nat} (hR:Row w' 0 (some ⟨g,0,none⟩) cap l) (hG:w.grownBy w' row) (hrow:∀ q,row=some q->p2=some ⟨q,0,none⟩) (hg:p2=some ⟨g,0,none⟩ \/ g=w.heap.size) :
    PlAt wb w' r { s with ats:=l } p1 k1 (some ⟨g,0,none⟩) cap:=by
  obtain ⟨a1,a2⟩:=h.grow_ (g:=g) hG (fun q e=>.inr (hrow q e));have own:=h.toRW.D1a;have e0:=h.le0;have kb:But row.toList w w':=⟨hG.os,hG.tape,hG.output,hG.size,fun i hi hn=>hG.block i hi (fun e=>hn (by rw [<- e];simp))⟩
  exact
   { toRW:=a1,own0:=h.own0,ext0:=a2,r2:=hR
     r1:=h.r1.but_ kb (fun b o e hm=>by
      have e':row=some b:=by simpa using hm
      exact h.n12 b o b 0 e (hrow b e') rfl)
     n2:=fun b o e=>by
      cases e
      rcases hg with hg | hg
      . exact h.n2 g 0 hg
      exact ⟨by omega,fun hm=>by have:=own g hm;omega⟩
     n1:=h.n1
     n12:=fun b o b' o' e e'=>by
      cases e'
      rcases hg with hg | hg
      . exact h.n12 b o g 0 e hg
      have:=h.r1.lt e;omega
     sp0:=h.sp0,op0:=h.op0 }
end PlAt
theorem b9a {w:World} {ops:Array Oper} {rest:List Oper} {o:Oper} {a:Act} {Q:Exit->Act->World->Prop} (hgd:o.guard=none) (s x:Operand)
    (ho:o.op = .call { callee:=.builtin .append,args:=#[s,x],argTypes:=#[22,22] }) {c b:Nat} {p:Option Addr} {l:List Int} {y:Int} (hs:a.eval s = .slice p l.length c) (hx:a.eval x = .slice (some ⟨b,0,none⟩) 1 1)
    (hrow:Row w 0 p c l) (hy:w.cell? ⟨b,0,none⟩=some (.int .i64 y)) (hy1 : -9223372036854775808<=y) (hy2:y<=9223372036854775807) (hlen:l.length < 10000000)
    (h:∀ g cap w' row,Row w' 0 (some ⟨g,0,none⟩) cap (l ++ [y])->w.grownBy w' row->(∀ r,row=some r->p=some ⟨r,0,none⟩)->(p=some ⟨g,0,none⟩ \/ g=w.heap.size)->wpList prog ops Q rest (a.put o.dst (.slice (some ⟨g,0,none⟩) (l.length+1) cap)) w'):wpList prog ops Q (o :: rest) a w:=by
  obtain ⟨i0,hi,hz0,hz1,hz2⟩:=info_parts (show (prog.info? 3).map (fun i=>(i.zero,i.size,i.bytes))=some (some (.int .i64 0),1,8) from by kernel_rfl);refine wpList_append_lies w hgd s x 22 ho 0 3 i0 (.int .i64 0) 1 8 underlying22 hi hz0 hz1 hz2 rfl (by decide) _ _ _ hs hrow.1 ⟨b,0,none⟩ 1 1 [.int .i64 y] hx (by simp) (fun j u hj=>?_) (by simp [Value.oneCell']) (by omega) (by unfold maxLen;omega) (by omega) (G9c _) _ rfl ?_
  . cases j with
    | zero=>
     simp at hj;subst hj;rw [G8c];exact hy
    | succ j=>simp at hj
  intro g cap w' hown hgrow hor _;have own:=D7b hrow;refine h g cap w' _ ⟨by simpa [ints] using hown,fun z hz=>?_⟩ hgrow own (hor.imp (own g) id)
  rcases C4c.1 hz with hz | hz
  . exact hrow.2 z hz
  have:z=y:=by simpa using hz
  subst this;exact ⟨hy1,hy2⟩
open Go.RowKit Go.Maps
theorem I7b {N:List Int} {r:Int} (hn:A.length=n) (hm:N.length=m) (hn2:n<=1000) (hm2:m<=1000) (ra:SliceAt w pa ca A) (rn:SliceAt w pn cn N) (h1 : -1-r < n) (h2:r < m) :
    Calls prog 113 #[.slice pa n ca,.slice pn m cn,.int .i64 r] w (Rt w (.int .i64 (Nd.toA A N r))):=by
  have le1:=ra.le;have cp1:=ra.cap;have le2:=rn.le;have cp2:=rn.cap;rw [hn] at le1;rw [hm] at le2
  by_cases h0:r < 0
  . obtain ⟨x,hx⟩:=A4a (l:=A) (j:=(-1-r).toNat) (by omega);rw [Q3b h0 hx];obtain ⟨b,o,rfl,hb,hc⟩:=ra.cells (by omega);have q:=hc _ x hx;obtain ⟨k,hk⟩:∃ k:Nat,-1-r=(k:Int):=⟨(-1-r).toNat,by omega⟩
    rw [hk,z5b] at q;have t0:decide (r < 0)=true:=E5c h0;have s1:IntKind.i64.wrap (-1-r)=(k:Int):=by rw [hk];exact E4c _ (by omega)
    have s2:wrap64 (-1-r)=(k:Int):=by rw [hk];exact z8b _ (by omega)
    have tk:decide ((k:Int) < (n:Int))=true:=dT;have zl:k < n:=by omega
    clear hx ra rn hn hm h1 h2 h0 hk hc;go_enter func113,ntmps113
    go_wp2_with fail
    go_returns;exact ⟨rfl,exx⟩
  obtain ⟨x,hx⟩:=A4a (l:=N) (j:=r.toNat) (by omega);rw [U0b h0 hx];obtain ⟨b,o,rfl,hb,hc⟩:=rn.cells (by omega);have q:=hc _ x hx;obtain ⟨k,rfl⟩:∃ k:Nat,r=(k:Int):=⟨r.toNat,by omega⟩
  rw [z5b] at q;have t0:decide ((k:Int) < 0)=false:=D7c h0;have tk:decide ((k:Int) < (m:Int))=true:=dT;have zl:k < m:=by omega
  clear hx ra rn hn hm h1 h2 h0 hc;go_enter func113,ntmps113
  go_wp2_with fail
  go_returns;exact ⟨rfl,exx⟩
theorem Row.but0 {bs:List Nat} (h:Row w 0 p c l) (k:But bs w w') (hf:∀ b ∈ bs,b ∉ blk p):Row w' 0 p c l:=by
 refine ⟨⟨h.1.1, ?_⟩,h.2⟩
 rcases h.1.2 with e | ⟨g,cap,cur,e,h1,hg,r⟩
 . exact .inl e
 refine .inr ⟨g,cap,cur,e,h1, ?_,r⟩
 have hl:=(q4b.1 hg).1
 rw [k.block g hl (fun hm=>hf g hm (by injection e with e1;subst e1;simp [blk]))]
 exact hg
structure RpSt (w wr:World) (r:Rd) (S:Hp.Hs) (L:DgL) (d:Nd.Dia) (gd:Nat) (pA:Option Addr) (cA:Nat) (A:List Int) (pN:Option Addr) (cN:Nat) (N:List Int):Prop where
 now:RNow w wr r S
 rd:DgRd wr L d.sizes d.order d.ends d.nodes
 d2:wr.cell? ⟨gd,2,none⟩=some (.slice L.pe d.ends.length L.ce)
 d3:wr.cell? ⟨gd,3,none⟩=some (.slice L.pn d.nodes.length L.cn)
 d4:wr.cell? ⟨gd,4,none⟩=some (.int .i64 d.root)
 ra:Row wr 0 pA cA A
 rn:Row wr 0 pN cN N
 lo:w.heap.size<=gd/\(∀ b ∈ blk pA,w.heap.size<=b/\b < wr.heap.size/\b ≠ gd/\b ∉ blk pN) /\ ∀ b ∈ blk pN,w.heap.size<=b/\b < wr.heap.size/\b ≠ gd
 dl:∀ W,But r.own w W->DgRd W L d.sizes d.order d.ends d.nodes
 hl:∀ b ∈ r.own,b < w.heap.size
 sl:(0 < S.sizes.length -> ∀ b o,r.sp=some ⟨b,o,none⟩->b < w.heap.size)/\(0 < S.order.length -> ∀ b o,r.op=some ⟨b,o,none⟩->b < w.heap.size)
namespace RpSt
variable {w wr w':World} {r:Rd} {S S':Hp.Hs} {L:DgL} {d:Nd.Dia} {gd:Nat} {pA pN:Option Addr} {cA cN:Nat} {A N:List Int}
theorem far (h:RpSt w wr r S L d gd pA cA A pN cN N) {l:List Nat} (k:But l wr w') (hl:∀ b ∈ l,w.heap.size<=b/\b ≠ gd/\b ∉ blk pA/\b ∉ blk pN):RpSt w w' r S L d gd pA cA A pN cN N:=by
 have old:∀ b,b < w.heap.size->b ∉ l:=fun b hb hm=>by have:=(hl b hm).1;omega
 have nd:gd ∉ l:=fun hm=>(hl _ hm).2.1 rfl
 exact
  { h with
    now:=⟨h.now.toRW.but' k (old _ (h.hl _ r.S8a)) (old _ (h.hl _ r.Y3a)) (fun h0 b o e=>old b (h.sl.1 h0 b o e)) (fun h0 b o e=>old b (h.sl.2 h0 b o e)),h.now.but.over k fun b hb=>.inr (hl b hb).1⟩
    rd:=h.dl _ (h.now.but.over k fun b hb=>.inr (hl b hb).1)
    d2:=(k.cell (cell_lt h.d2) nd 2).trans h.d2
    d3:=(k.cell (cell_lt h.d3) nd 3).trans h.d3
    d4:=(k.cell (cell_lt h.d4) nd 4).trans h.d4
    ra:=h.ra.but0 k fun b hb=>(hl b hb).2.2.1
    rn:=h.rn.but0 k fun b hb=>(hl b hb).2.2.2
    lo:=⟨h.lo.1,fun b hb=>⟨(h.lo.2.1 b hb).1,x4b (h.lo.2.1 b hb).2.1 k.size,(h.lo.2.1 b hb).2.2⟩,fun b hb=>⟨(h.lo.2.2 b hb).1,x4b (h.lo.2.2 b hb).2.1 k.size,(h.lo.2.2 b hb).2.2⟩⟩ }
theorem ext (h:RpSt w wr r S L d gd pA cA A pN cN N) (k:Ext wr w'):RpSt w w' r S L d gd pA cA A pN cN N:=h.far (l:=[]) (But.E7a k) (by simp)
theorem heap (h:RpSt w wr r S L d gd pA cA A pN cN N) (k:RNow wr w' r S') (e1:S'.sizes=S.sizes) (e2:S'.order=S.order):RpSt w w' r S' L d gd pA cA A pN cN N:=by
 have nb:∀ b,w.heap.size<=b->b ∉ r.own:=fun b hb hm=>by have:=h.hl b hm;omega
 exact
  { h with
    now:=⟨k.toRW,h.now.but.trans k.but⟩
    rd:=h.dl _ (h.now.but.trans k.but)
    d2:=(k.but.cell (cell_lt h.d2) (nb _ h.lo.1) 2).trans h.d2
    d3:=(k.but.cell (cell_lt h.d3) (nb _ h.lo.1) 3).trans h.d3
    d4:=(k.but.cell (cell_lt h.d4) (nb _ h.lo.1) 4).trans h.d4
    ra:=h.ra.but0 k.but fun b hb hm=>nb b (h.lo.2.1 b hm).1 hb
    rn:=h.rn.but0 k.but fun b hb hm=>nb b (h.lo.2.2 b hm).1 hb
    sl:=by rw [e1,e2];exact h.sl
    lo:=⟨h.lo.1,fun b hb=>⟨(h.lo.2.1 b hb).1,x4b (h.lo.2.1 b hb).2.1 k.but.size,(h.lo.2.1 b hb).2.2⟩,fun b hb=>⟨(h.lo.2.2 b hb).1,x4b (h.lo.2.2 b hb).2.1 k.but.size,(h.lo.2.2 b hb).2.2⟩⟩ }
theorem growA (h:RpSt w wr r S L d gd pA cA A pN cN N) {row:Option Nat} {A':List Int} (hR:Row w' 0 (some ⟨g,0,none⟩) cap A') (hG:wr.grownBy w' row) (hrow:∀ q,row=some q->pA=some ⟨q,0,none⟩) (hg:pA=some ⟨g,0,none⟩ \/ g=wr.heap.size) (hlt:g < w'.heap.size):RpSt w w' r S L d gd (some ⟨g,0,none⟩) cap A' pN cN N:=by
 have k:But (blk pA) wr w':=⟨hG.os,hG.tape,hG.output,hG.size,fun i hi hn=>hG.block i hi fun e=>hn (by rw [hrow i e.symm];simp [blk])⟩
 have old:∀ b,b < w.heap.size->b ∉ blk pA:=fun b hb hm=>by have:=(h.lo.2.1 b hm).1;omega
 have nd:gd ∉ blk pA:=fun hm=>(h.lo.2.1 _ hm).2.2.1 rfl
 have gl:∀ b ∈ blk (some (⟨g,0,none⟩:Addr)),b=g:=fun b hb=>by simpa [blk] using hb
 have ws:=h.now.but.size
 have gdl:=cell_lt h.d2
 exact
  { h with
    now:=⟨h.now.toRW.but' k (old _ (h.hl _ r.S8a)) (old _ (h.hl _ r.Y3a)) (fun h0 b o e=>old b (h.sl.1 h0 b o e)) (fun h0 b o e=>old b (h.sl.2 h0 b o e)),h.now.but.over k fun b hb=>.inr (h.lo.2.1 b hb).1⟩
    rd:=h.dl _ (h.now.but.over k fun b hb=>.inr (h.lo.2.1 b hb).1)
    d2:=(k.cell (cell_lt h.d2) nd 2).trans h.d2
    d3:=(k.cell (cell_lt h.d3) nd 3).trans h.d3
    d4:=(k.cell (cell_lt h.d4) nd 4).trans h.d4
    ra:=hR
    rn:=h.rn.but0 k fun b hb hm=>(h.lo.2.1 b hb).2.2.2 hm
    lo:=⟨h.lo.1,fun b hb=>by
     have:=gl b hb;subst this
     rcases hg with hg | hg
     . have:=h.lo.2.1 b (by rw [hg];simp [blk]);exact ⟨this.1,hlt,this.2.2⟩
     . exact ⟨by omega,hlt,by omega,fun hm=>by have:=(h.lo.2.2 b hm).2.1;omega⟩,fun b hb=>⟨(h.lo.2.2 b hb).1,x4b (h.lo.2.2 b hb).2.1 k.size,(h.lo.2.2 b hb).2.2⟩⟩ }
theorem growN (h:RpSt w wr r S L d gd pA cA A pN cN N) {row:Option Nat} {N':List Int} (hR:Row w' 0 (some ⟨g,0,none⟩) cap N') (hG:wr.grownBy w' row) (hrow:∀ q,row=some q->pN=some ⟨q,0,none⟩) (hg:pN=some ⟨g,0,none⟩ \/ g=wr.heap.size) (hlt:g < w'.heap.size):RpSt w w' r S L d gd pA cA A (some ⟨g,0,none⟩) cap N':=by
 have k:But (blk pN) wr w':=⟨hG.os,hG.tape,hG.output,hG.size,fun i hi hn=>hG.block i hi fun e=>hn (by rw [hrow i e.symm];simp [blk])⟩
 have old:∀ b,b < w.heap.size->b ∉ blk pN:=fun b hb hm=>by have:=(h.lo.2.2 b hm).1;omega
 have nd:gd ∉ blk pN:=fun hm=>(h.lo.2.2 _ hm).2.2 rfl
 have gl:∀ b ∈ blk (some (⟨g,0,none⟩:Addr)),b=g:=fun b hb=>by simpa [blk] using hb
 have ws:=h.now.but.size
 have gdl:=cell_lt h.d2
 exact
  { h with
    now:=⟨h.now.toRW.but' k (old _ (h.hl _ r.S8a)) (old _ (h.hl _ r.Y3a)) (fun h0 b o e=>old b (h.sl.1 h0 b o e)) (fun h0 b o e=>old b (h.sl.2 h0 b o e)),h.now.but.over k fun b hb=>.inr (h.lo.2.2 b hb).1⟩
    rd:=h.dl _ (h.now.but.over k fun b hb=>.inr (h.lo.2.2 b hb).1)
    d2:=(k.cell (cell_lt h.d2) nd 2).trans h.d2
    d3:=(k.cell (cell_lt h.d3) nd 3).trans h.d3
    d4:=(k.cell (cell_lt h.d4) nd 4).trans h.d4
    ra:=h.ra.but0 k fun b hb hm=>(h.lo.2.1 b hm).2.2.2 hb
    rn:=hR
    lo:=⟨h.lo.1,fun b hb=>⟨(h.lo.2.1 b hb).1,x4b (h.lo.2.1 b hb).2.1 k.size,(h.lo.2.1 b hb).2.2.1,fun hm=>by
     have:=gl b hm;subst this
     rcases hg with hg | hg
     . exact (h.lo.2.1 b hb).2.2.2 (by rw [hg];simp [blk])
     . have:=(h.lo.2.1 b hb).2.1;omega⟩,fun b hb=>by
     have:=gl b hb;subst this
     rcases hg with hg | hg
     . have:=h.lo.2.2 b (by rw [hg];simp [blk]);exact ⟨this.1,hlt,this.2.2⟩
     . exact ⟨by omega,hlt,by omega⟩⟩ }
end RpSt
open Go.RowKit Go.Maps
theorem A8a {w:World} {ops:Array Oper} {rest:List Oper} {o:Oper} {a:Act} {Q:Exit->Act->World->Prop} (hgd:o.guard=none) (s x:Operand)
    (ho:o.op = .call { callee:=.builtin .append,args:=#[s,x],argTypes:=#[22,22] }) {c b n:Nat} {p:Option Addr} {l:List Int} {y:Int} (hn:l.length=n) (hs:a.eval s = .slice p n c) (hx:a.eval x = .slice (some ⟨b,0,none⟩) 1 1)
    (hrow:Row w 0 p c l) (hy:w.cell? ⟨b,0,none⟩=some (.int .i64 y)) (hy1 : -9223372036854775808<=y) (hy2:y<=9223372036854775807) (hlen:n < 10000000)
    (h:∀ g cap w' row,Row w' 0 (some ⟨g,0,none⟩) cap (l ++ [y])->w.grownBy w' row->(∀ r,row=some r->p=some ⟨r,0,none⟩)->(p=some ⟨g,0,none⟩ \/ g=w.heap.size)->wpList prog ops Q rest (a.put o.dst (.slice (some ⟨g,0,none⟩) (n+1) cap)) w'):wpList prog ops Q (o :: rest) a w:=by
  subst hn;exact b9a hgd s x ho hs hx hrow hy hy1 hy2 hlen h
def W3b (wb:World) (rb:Nat) (s':Hp.Sc) (e:Ending) (w':World):Prop:=
 ∃ p c,∃ r:Rd,e = .returned (.slice p s'.res.length c)/\SliceAt w' p c s'.res/\RW w' r s'.S/\r.rb=rb/\(∀ b ∈ r.own,wb.heap.size<=b)/\Ext wb w'
theorem l2b {s1:Hp.Sc} {x:Hp.Act'} (h:Hp.Good s.S B) (hB:B < 100000) (hf:0<=x.fault) (hd:s.do' x=some s1):Hp.Good s1.S (B+1)/\Hp.Grown s.S s1.S:=by
 obtain ⟨s2,e,h1,h2⟩:=Hp.Y5b h hB x hf
 rw [hd] at e
 cases e
 exact ⟨h1,h2⟩
theorem G9b {p1 p3:Option Addr} {c1 c2 c3 yl pl:Nat} {Y P AT:List Int} (h1:SliceAt w p1 c1 A) (h2:SliceAt w p2 c2 Y) (h3:SliceAt w p3 c3 P) (hA:A.length=j) (hj:j<=1000000) (hY:Y.length=yl) (hP:P.length=pl) (hpl:pl<=1000000) (hAT:A.map (Hp.N7a Y P)=AT) :
    Calls prog 95 #[.slice p1 j c1,.slice p2 yl c2,.slice p3 pl c3] w fun e w'=>∃ p c,e = .returned (.slice p j c)/\Row w' w.heap.size p c AT/\Ext w w':=by
  have K:=rKept h1 h2 h3 (by omega) (by omega);rw [hA,hY,hP,hAT] at K;refine K.mono ?_;rintro e w' ⟨p,c,rfl,hR,hE⟩;exact ⟨p,c,by rw [<- hAT,C6c,hA],hR,hE⟩
theorem j0a {S1:Hp.Hs} {cm:Nat} {ch:Nat->List Nat} (hw:Hp.Wf S B L ch) (hT:S.live=some T) (hco:S.collect=some (cm,S1)):cm<=100000:=by
 obtain ⟨S',L',e,_⟩:=Hp.M7a hw hT
 rw [hco] at e
 simp only [z7b,F1c] at e
 have:=t4b (fun a=>!T.contains a) S.taken
 have:=hw.few
 have:=hw.hi
 omega
theorem u8a {S1:Hp.Hs} {cm:Nat} {ch:Nat->List Nat} (hw:Hp.Wf S B L ch) (hT:S.live=some T) (hco:S.collect=some (cm,S1)):∃ L1 ch1,Hp.Wf S1 B L1 ch1:=by
 obtain ⟨S',L',e,_,hw'⟩:=Hp.M7a hw hT
 rw [hco] at e
 simp only [z7b,F1c] at e
 obtain ⟨_,rfl⟩:=e
 exact ⟨_,_,hw'⟩
theorem e1a (Y:List Nat):(Hp.K9a Y).length=Y.length:=Hp.C1a Y
theorem R5b (w:World):SliceAt w none 0 []:=(Row.nil w 0).at_
theorem rPlay {B0:Nat} (h:RW w r S) (hg:Hp.Good S B0) (hB:B0<=90000) (own:∀ b ∈ r.own,wb.heap.size<=b) (ext:Ext wb w) (sp0:0 < S.sizes.length -> ∀ b o,r.sp=some ⟨b,o,none⟩->b < wb.heap.size) (op0:0 < S.order.length -> ∀ b o,r.op=some ⟨b,o,none⟩->b < wb.heap.size)
    {pa:Option Addr} {ca:Nat} {acts:List Hp.Act'} (ha:g1b wb pa ca acts) (hal:acts.length<=300) {s':Hp.Sc} (hr:Hp.Sc.play ⟨S,[],[]⟩ acts=some s') :
    Calls prog 33 #[.pointer (some ⟨r.rb,0,none⟩),.slice pa acts.length ca] w (W3b wb r.rb s'):=by
  have N0:Hid (PlAt wb w r ⟨S,[],[]⟩ none 0 none 0):=hZ
   { toRW:=h,own0:=own,ext0:=ext,r1:=(Row.nil w 0).base0,r2:=(Row.nil w 0).base0
     n1:=fun b o e=>by cases e
     n2:=fun b o e=>by cases e
     n12:=fun b o b' o' e=>by cases e
     sp0:=sp0,op0:=op0 }
  have HA:=hZ ha;have le:=ha.le;have cap:=ha.cap;have OK0:=hZ (show ScOk ⟨S,[],[]⟩ 0 from ⟨rfl,rfl,by simp⟩);have HR0:=hZ (show Hp.Sc.play ⟨S,[],[]⟩ (acts.drop 0)=some s' from hr);have GD0:=hZ (show Hp.Good S (B0+0) from hg);obtain ⟨m,hm⟩:∃ m,acts.length=m:=⟨_,rfl⟩
  have HM:=hZ hm;obtain ⟨rb,hrb⟩:∃ rb,r.rb=rb:=⟨_,rfl⟩
  have RB0:=hZ hrb;rw [hm] at le hal ⊢;rw [hrb];clear h hg own ext sp0 op0 ha hr hm hrb;go_enter func33,ntmps33
  go_wp2_with fail
  go_loopg [5,6,7] m (fun g' v5 v6 v7 wr=>∃ (j:Nat) (s:Hp.Sc) (rr:Rd) (p1:Option Addr) (k1:Nat) (p2:Option Addr) (k2:Nat),j<=m/\m-j<=g'/\v5 = .slice p1 j k1/\v6 = .slice p2 j k2/\v7 = .int .i64 j/\Hid (rr.rb=rb)/\Hid (PlAt wb wr rr s p1 k1 p2 k2)/\Hid (Hp.Sc.play s (acts.drop j)=some s')/\Hid (ScOk s j)/\Hid (Hp.Good s.S (B0+j)))
  case atStart=>exact ⟨0,_,r,none,0,none,0,G9c _,by omega,rfl,rfl,rfl,RB0,N0,HR0,OK0,GD0⟩
  case round=>
   obtain ⟨j,s,rr,p1,k1,p2,k2,hj,hg,rfl,rfl,rfl,HRB,N,HP,OK,GD⟩:=hrel;clear N0 HR0 OK0 GD0 RB0;have hrb:=HRB.out;clear HRB;subst hrb
   by_cases hlt:j < m
   . obtain ⟨x,hx⟩:∃ x,acts[j]? = some x:=⟨acts[j]'(by rw [HM.out];exact hlt),r1b _⟩
     obtain ⟨b,o,rfl,hb,hc⟩:=HA.out.cells (by rw [HM.out];omega);obtain ⟨q',c',f,ok,d0,d1,d2,d3,d4,hs⟩:=hc j x hx;have hs:=hs.ext N.out.ext0;have a0:=N.out.ext0.q d0;have a1:=N.out.ext0.q d1;have a2:=N.out.ext0.q d2;have a3:=N.out.ext0.q d3;have a4:=N.out.ext0.q d4;have D0:=hZ d0;clear d0 d1 d2 d3 d4;have tk:decide ((j:Int) < (m:Int))=true:=dT;have HOK:=hZ ok;have HS:=hZ hs;have hp2:=HP.out;rw [q8b (by rw [HM.out];exact hlt)] at hp2;have hxe:acts[j]'(by rw [HM.out];exact hlt)=x:=by
      have:=hx;rw [r1b (by rw [HM.out];exact hlt)] at this;exact D3c this
     rw [hxe] at hp2;simp only [Hp.Sc.play,v9b,s0b] at hp2;obtain ⟨s1,hdo,hrest⟩:=hp2;have HREST:=hZ hrest;have OK1:=hZ (OK.out.do' hdo);obtain ⟨gd1,gr1⟩:=l2b GD.out (by omega) (show 0<=x.fault by have:=ok.fault;omega) hdo;have GD1:=hZ (show Hp.Good s1.S (B0+(j+1)) from gd1);clear hc hx ok hs hrest hxe HP gd1;obtain ⟨L,ch,hw⟩:=GD.out;have SA:=hZ N.out.r2.at_;have ba1:(-9223372036854775808:Int)<=0:=by decide
     have ba2:(0:Int)<=9223372036854775807:=by decide
     by_cases h6:x.kind=6
     . obtain ⟨cm,S1,hco,rfl⟩:=Hp.do_six hdo h6;obtain ⟨TL,hT⟩:=Hp.M5a hw;have es:s.S.sizes=s.S.sizes:=rfl;have eo:s.S.order=s.S.order:=rfl;have E1:=hZ (show S1.sizes=s.S.sizes from gr1.sizes);have E2:=hZ (show S1.order=s.S.order from gr1.order);have hll:=Hp.z8a hw hT hco;have LL:=hZ hll;have CD:=B8b N.out.toRW hw HOK.out SA.out HS.out (Hp.h7b (S:=s.S) (A:=s.ats) (.inl h6));unfold actV at CD;rw [OK.out.ats,h6] at CD;rw [h6] at a0 D0;have CD:=hZ CD;have LV:=hZ (fun W (hW:RAt W rr s.S)=>k2b hW hw hT);have CO:=hZ (fun W (hW:RW W rr s.S)=>F1b hW hw hco);have cb:=j0a hw hT hco;have bn1:(-9223372036854775808:Int)<=(cm:Int):=by omega
       have bn2:(cm:Int)<=9223372036854775807:=by omega
       have LA:((s.ats.map fun a=>if S1.has a then a else 0)).length=j:=by rw [C6c,OK.out.ats]
       have HLA:=hZ LA;have z0:=N.out.le0;clear hdo gr1 hll hT hco cb hw LA
       go_wp2_with (first
        | (go_at_call 94;refine CD.out.mono ?_;rintro e3 w3 ⟨rfl,hN3⟩;have N3:=hZ (N.out.turned hN3 es eo);have a0':=N3.out.ext0.q D0.out;clear hN3)
        | (go_at_call 83;refine (LV.out _ N3.out.toRW.at_).mono ?_;rintro e4 w4 ⟨Y,p4,c4,b4,rfl,hb4,hR4,hE4,hY,hYl⟩;have N4:=hZ (N3.out.ext hE4);have HY:=hZ (fun a=>(hY a).trans (LL.out a));have R4:=hZ hR4;have B4:=hZ hb4;clear hY hYl hR4 hb4)
        | (go_at_call 95;refine (G9b N4.out.r2.at_ R4.out.at_ (R5b _) OK.out.ats (by omega) (e1a Y) (show ([]:List Int).length=0 from rfl) (by decide) (Hp.c2b HY.out s.ats)).mono ?_;rintro e5 w5 ⟨p5,c5,rfl,hR5,hE5⟩;have N5:=hZ (PlAt.ats_ (N4.out.ext hE5) (fun b o e=>N4.out.r1.lt e) N4.out.toRW.D1a N4.out.le0 hR5);clear hR5)
        | (go_at_call 96;refine (CO.out _ N5.out.toRW).mono ?_;rintro e6 w6 ⟨rfl,hN6⟩;have N6:=hZ (N5.out.turned hN6 E1.out E2.out);clear hN6)
        | (at_builtin;refine A8a rfl _ _ rfl (n:=j) OK.out.res rfl rfl (N6.out.ext (Ext.alloc (Ext.refl _) _)).r1 (by go_simp) bn1 bn2 (by omega) ?_;intro g7 c7 w7 row7 hR7 hG7 hr7 hg7;have N7:=hZ ((N6.out.ext (Ext.alloc (Ext.refl _) _)).J5b hR7 hG7 hr7 hg7);clear hR7 hG7 hr7 hg7)
        | (at_builtin;refine A8a rfl _ _ rfl (n:=j) HLA.out rfl rfl (N7.out.ext (Ext.alloc (Ext.refl _) _)).r2 (by go_simp) ba1 ba2 (by omega) ?_;intro g8 c8 w8 row8 hR8 hG8 hr8 hg8;have N8:=hZ ((N7.out.ext (Ext.alloc (Ext.refl _) _)).M9b hR8 hG8 hr8 hg8);clear hR8 hG8 hr8 hg8))
       go_roundg (m-(j+1))
       case measure=>omega
       case rel=>exact ⟨j+1,_,rr,_,_,_,_,by omega,H0c _,rfl,rfl,by go_num,hZ rfl,N8,HREST,OK1,GD1⟩
     by_cases h7:x.kind=7
     . obtain ⟨cm,S1,M,S2,hco,hmv,rfl⟩:=Hp.b5b hdo h7;obtain ⟨TL,hT⟩:=Hp.M5a hw;have es:s.S.sizes=s.S.sizes:=rfl;have eo:s.S.order=s.S.order:=rfl;have E1:=hZ (show S2.sizes=s.S.sizes from gr1.sizes);have E2:=hZ (show S2.order=s.S.order from gr1.order);have hll:=Hp.z8a hw hT hco;have LL:=hZ hll;obtain ⟨L1,ch1,hw1⟩:=u8a hw hT hco;have few1:=hw1.few;have hi1:=hw1.hi;have HW1:=hZ hw1;have CD:=B8b N.out.toRW hw HOK.out SA.out HS.out (Hp.h7b (S:=s.S) (A:=s.ats) (.inr h7));unfold actV at CD;rw [OK.out.ats,h7] at CD;rw [h7] at a0 D0;have CD:=hZ CD;have LV:=hZ (fun W (hW:RAt W rr s.S)=>k2b hW hw hT);have CO:=hZ (fun W (hW:RW W rr s.S)=>d1b hW hw hco hmv);have bn1:=ba1;have bn2:=ba2;have LA:((s.ats.map fun a=>if S1.has a then a else 0).map fun a=>if a < 0 then 0 else (getI a.toNat M).getD 0).length=j:=by rw [C6c,C6c,OK.out.ats]
       have HLA:=hZ LA;have z0:=N.out.le0;clear hdo gr1 hll hT hco hmv hw hw1 LA
       go_wp2_with (first
        | (go_at_call 94;refine CD.out.mono ?_;rintro e3 w3 ⟨rfl,hN3⟩;have N3:=hZ (N.out.turned hN3 es eo);have a0':=N3.out.ext0.q D0.out;clear hN3)
        | (go_at_call 83;refine (LV.out _ N3.out.toRW.at_).mono ?_;rintro e4 w4 ⟨Y,p4,c4,b4,rfl,hb4,hR4,hE4,hY,hYl⟩;have N4:=hZ (N3.out.ext hE4);have HY:=hZ (fun a=>(hY a).trans (LL.out a));have R4:=hZ hR4;have B4:=hZ hb4;clear hY hYl hR4 hb4)
        | (go_at_call 97;refine (CO.out _ N4.out.toRW).mono ?_;rintro e6 w6 ⟨mv,p6,c6,b6,g6,rfl,hb6,hR6,hg6,hW6,hK6,hM6⟩;have R6:=hZ hR6.at_;have Y6:=hZ (R4.out.at_.but hK6 (fun b o e hm=>by have h1:=R4.out.far e;have h2:=N3.out.toRW.D1a b hm;have h3:=B4.out;omega));have N6:=hZ (N4.out.turn hK6 hW6 rfl (.inr hg6) rfl rfl E1.out E2.out);have M6:=hZ hM6;clear hb6 hR6 hg6 hW6 hK6 hM6)
        | (go_at_call 95;refine (G9b N6.out.r2.at_ Y6.out R6.out OK.out.ats (by omega) (e1a Y) rfl (by have:=Hp.k3a (m:=mv) (T:=S1.taken);omega) (Hp.K7b HW1.out M6.out HY.out s.ats)).mono ?_;rintro e5 w5 ⟨p5,c5,rfl,hR5,hE5⟩;have N5:=hZ (PlAt.ats_ (N6.out.ext hE5) (fun b o e=>N6.out.r1.lt e) N6.out.toRW.D1a N6.out.le0 hR5);clear hR5)
        | (at_builtin;refine A8a rfl _ _ rfl (n:=j) OK.out.res rfl rfl (N5.out.ext (Ext.alloc (Ext.refl _) _)).r1 (by go_simp) bn1 bn2 (by omega) ?_;intro g7 c7 w7 row7 hR7 hG7 hr7 hg7;have N7:=hZ ((N5.out.ext (Ext.alloc (Ext.refl _) _)).J5b hR7 hG7 hr7 hg7);clear hR7 hG7 hr7 hg7)
        | (at_builtin;refine A8a rfl _ _ rfl (n:=j) HLA.out rfl rfl (N7.out.ext (Ext.alloc (Ext.refl _) _)).r2 (by go_simp) ba1 ba2 (by omega) ?_;intro g8 c8 w8 row8 hR8 hG8 hr8 hg8;have N8:=hZ ((N7.out.ext (Ext.alloc (Ext.refl _) _)).M9b hR8 hG8 hr8 hg8);clear hR8 hG8 hr8 hg8))
       go_roundg (m-(j+1))
       case measure=>omega
       case rel=>exact ⟨j+1,_,{ rr with gb:=g6,wc:=S2.words.length },_,_,_,_,by omega,H0c _,rfl,rfl,by go_num,hZ rfl,N8,HREST,OK1,GD1⟩
     obtain ⟨n,na,e0,S1,hrd,rfl⟩:=Hp.rdo_of hdo h6 h7;have es:S1.sizes=s.S.sizes:=gr1.sizes;have eo:S1.order=s.S.order:=gr1.order;have hbd:=U3b (by have:=hw.hi;omega) SA.out.wf hrd;have CD:=B8b N.out.toRW hw HOK.out SA.out HS.out hrd;unfold actV at CD;rw [OK.out.ats] at CD;have CD:=hZ CD;have LA:=OK.out.ats;have HLA:=hZ LA;clear hdo gr1 hrd hw LA
     by_cases he0:e0=0
     . subst he0;have bn1:=hbd.1.1;have bn2:=hbd.1.2;have ba1:=hbd.2.1.1;have ba2:=hbd.2.1.2;have OK1:=hZ (show ScOk ⟨S1,s.res ++ [n],s.ats ++ [na]⟩ (j+1) from OK1.out);have HREST:=hZ (show Hp.Sc.play ⟨S1,s.res ++ [n],s.ats ++ [na]⟩ (acts.drop (j+1))=some s' from HREST.out);have t6:(x.kind == 6)=false:=by simpa using h6
       have t7:(x.kind == 7)=false:=by simpa using h7
       clear hbd
       go_wp2_with (first
        | (go_at_call 94;refine CD.out.mono ?_;rintro e3 w3 ⟨rfl,hN3⟩;have N3:=hZ (N.out.turned hN3 es eo);have a0':=N3.out.ext0.q D0.out;clear hN3)
        | (at_builtin;refine A8a rfl _ _ rfl (n:=j) OK.out.res rfl rfl (N3.out.ext (Ext.alloc (Ext.refl _) _)).r1 (by go_simp) bn1 bn2 (by omega) ?_;intro g7 c7 w7 row7 hR7 hG7 hr7 hg7;have N7:=hZ ((N3.out.ext (Ext.alloc (Ext.refl _) _)).J5b hR7 hG7 hr7 hg7);clear hR7 hG7 hr7 hg7)
        | (at_builtin;refine A8a rfl _ _ rfl (n:=j) HLA.out rfl rfl (N7.out.ext (Ext.alloc (Ext.refl _) _)).r2 (by go_simp) ba1 ba2 (by omega) ?_;intro g8 c8 w8 row8 hR8 hG8 hr8 hg8;have N8:=hZ ((N7.out.ext (Ext.alloc (Ext.refl _) _)).M9b hR8 hG8 hr8 hg8);clear hR8 hG8 hr8 hg8))
       go_roundg (m-(j+1))
       case measure=>omega
       case rel=>exact ⟨j+1,_,rr,_,_,_,_,by omega,H0c _,rfl,rfl,by go_num,hZ rfl,N8,HREST,OK1,GD1⟩
     have bn1:(-9223372036854775808:Int) <= -e0:=by omega
     have bn2 : -e0<=9223372036854775807:=by omega
     have OK1:=hZ (show ScOk ⟨S1,s.res ++ [-e0],s.ats ++ [0]⟩ (j+1) by have:=OK1.out;rw [H5c he0,H5c he0] at this;exact this);have HREST:=hZ (show Hp.Sc.play ⟨S1,s.res ++ [-e0],s.ats ++ [0]⟩ (acts.drop (j+1))=some s' by have:=HREST.out;rw [H5c he0,H5c he0] at this;exact this);have t8:(e0 != 0)=true:=by simpa using he0
     have t9:(e0 == 0)=false:=by simpa using he0
     have wn:IntKind.i64.wrap (-e0) = -e0:=E4c _ (by omega);clear hbd
     go_wp2_with (first
      | (go_at_call 94;refine CD.out.mono ?_;rintro e3 w3 ⟨rfl,hN3⟩;have N3:=hZ (N.out.turned hN3 es eo);have a0':=N3.out.ext0.q D0.out;clear hN3)
      | (at_builtin;refine A8a rfl _ _ rfl (n:=j) OK.out.res rfl rfl (N3.out.ext (Ext.alloc (Ext.refl _) _)).r1 (by go_simp) bn1 bn2 (by omega) ?_;intro g7 c7 w7 row7 hR7 hG7 hr7 hg7;have N7:=hZ ((N3.out.ext (Ext.alloc (Ext.refl _) _)).J5b hR7 hG7 hr7 hg7);clear hR7 hG7 hr7 hg7)
      | (at_builtin;refine A8a rfl _ _ rfl (n:=j) HLA.out rfl rfl (N7.out.ext (Ext.alloc (Ext.refl _) _)).r2 (by go_simp) ba1 ba2 (by omega) ?_;intro g8 c8 w8 row8 hR8 hG8 hr8 hg8;have N8:=hZ ((N7.out.ext (Ext.alloc (Ext.refl _) _)).M9b hR8 hG8 hr8 hg8);clear hR8 hG8 hr8 hg8))
     go_roundg (m-(j+1))
     case measure=>omega
     case rel=>exact ⟨j+1,_,rr,_,_,_,_,by omega,H0c _,rfl,rfl,by go_num,hZ rfl,N8,HREST,OK1,GD1⟩
   have:j=m:=by omega
   subst this;have tk:decide ((j:Int) < (j:Int))=false:=dF;have hp2:=HP.out;rw [s5b (by rw [HM.out];exact H0c _)] at hp2;obtain rfl:s=s':=by simpa [Hp.Sc.play] using hp2
   go_wp2_with fail
   go_returns;exact ⟨p1,k1,rr,by rw [OK.out.res];rfl,N.out.r1.at_.ext exx,N.out.toRW.ext exx,rfl,N.out.own0,N.out.ext0.trans exx⟩
end Go.Proofs.YtdokmmhjmclmnaaGreat
