/- Part 28 of a proof. -/
import Derived.Test.YtdokmmhjmclmnaaGreatMU27
set_option linter.unusedSimpArgs false
set_option linter.unusedVariables false
set_option linter.unusedSectionVars false
set_option linter.unnecessarySimpa false
set_option maxHeartbeats 16000000
set_option maxRecDepth 100000
namespace Go.Proofs.YtdokmmhjmclmnaaGreat
open Go.Proofs.Tryz
variable {W' w w' w0 wb:World} {B a b bx c ca cap ce cn f g i j k lb m n qc:Nat} {choice e t x:Int} {A W fs ks l o z:List Int} {D T Y:List Nat} {p p2 pa pe pn q:Option Addr} {d:Hd} {S S':Hp.Hs} {r:Rd} {L:List Hp.Tl} {M:List (Nat × Int)} {s:Hp.Sc}
open Go.RowKit Go.Maps
theorem M1a {N:List (Int × List Int)} {K:List (Option Addr × Nat)} {q:Int × List Int} {k:Option Addr × Nat} (h:N[j]? = some q) (hk:K[j]? = some k):(List.zipWith S4a N K)[j]? = some [.int .i64 q.1,.slice k.1 q.2.length k.2]:=by
 rw [List.getElem?_zipWith,h,hk]
 rfl
theorem A7a {N:List (Int × List Int)} {K:List (Option Addr × Nat)} (h:K.length=N.length):(List.zipWith S4a N K).length=N.length:=by
 rw [v6b,h,G6c]
theorem DgRd.node_cells {L:DgL} {E:List (Int × Int)} {N:List (Int × List Int)} (h:DgRd w L z o E N) (h0:0 < N.length):∃ b o,L.pn=some ⟨b,o,none⟩/\b < w.heap.size /\
    ∀ (j:Nat) (q:Int × List Int) (k:Option Addr × Nat),N[j]? = some q->L.K[j]? = some k->w.cell? ⟨b,o+j * 2,none⟩=some (.int .i64 q.1)/\w.cell? ⟨b,o+j * 2+1,none⟩=some (.slice k.1 q.2.length k.2):=by
  obtain ⟨b,o',e,hb,hc⟩:=h.n.cells (by rw [A7a h.kl];exact h0);refine ⟨b,o',e,hb,fun j q k hq hk=>⟨?_, ?_⟩⟩
  . exact hc j _ 0 _ (M1a hq hk) rfl
  exact hc j _ 1 _ (M1a hq hk) rfl
def F0a (v:Int × Int):Bool:=if v.1=0 then Hp.within (-9999) 9999 v.2 else decide (v.1<=4) && decide (v.2=0)
theorem m6b (f n:Int) (h0:0<=f) :
    Calls prog 134 #[.agg #[.int .u8 f,.int .i64 n]] w (Rt w (.bool (F0a (f,n)))):=by
  by_cases hf:f=0
  . subst hf;have e:F0a (0,n)=Hp.within (-9999) 9999 n:=by unfold F0a;rw [H5c rfl]
    rw [e];have HI:=hZ (fun W=>dIn n (-9999) 9999 W);go_enter func134,ntmps134
    go_wp2_with (go_at_call 66;refine m4_ (HI.out _) fun w1 hb1 hc1 hf1 hs1=>?_)
    go_returns;exact ⟨rfl,exx⟩
  have t0:(f == 0)=false:=by simpa using hf
  by_cases h4:f<=4
  . have t1:decide (f<=4)=true:=E5c h4;have e:F0a (f,n)=(n == 0):=by
     unfold F0a;rw [H4c hf];simp only [t1,F5c]
     by_cases hn:n=0
     . simp [hn]
     simp [hn]
    rw [e];clear e hf h4;go_enter func134,ntmps134
    go_wp2_with fail
    go_returns;exact ⟨rfl,exx⟩
  have t1:decide (f<=4)=false:=D7c h4;have e:F0a (f,n)=false:=by
   unfold F0a;rw [H4c hf];simp only [t1,E3c]
  rw [e];clear e hf h4;go_enter func134,ntmps134
  go_wp2_with fail
  go_returns;exact ⟨rfl,exx⟩
theorem dHas (h:SliceAt w p c l) (x:Int) :
    Calls prog 178 #[.slice p l.length c,.int .i64 x] w (Rt w (.bool (decide (x ∈ l)))):=by
  have hle:=h.le;have hcap:=h.cap;have H:=hZ h;clear h;generalize hL:l.length=n at hle ⊢;have HL:=hZ hL;clear hL;go_enter func178,ntmps178;go_wp2
  go_loopg [5] n (fun g i wr=>∃ j:Nat,j<=n/\n-j<=g/\i = .int .i64 j/\Aside (Ext w wr)/\Aside (∀ m y,m < j->Hp.rd l m=some y->y ≠ x))
  case atStart=>exact ⟨0,G9c _,by omega,rfl,Ext.refl w,fun m y hm=>absurd hm (D0c _)⟩
  case round=>
   obtain ⟨j,hj,hg,rfl,HE,HA⟩:=hrel
   by_cases hlt:j < n
   . obtain ⟨y,hy⟩:=A4a (l:=l) (j:=j) (by rw [HL.out];exact hlt);obtain ⟨b,o,rfl,hb,hc⟩:=(H.out.ext HE.out).cells (by rw [HL.out];omega);have g1:=hc j y hy;have tk:decide ((j:Int) < (n:Int))=true:=dT;have HY:=hZ hy;clear hc hy
     by_cases he:y=x
     . subst he;have e:decide (y ∈ l)=true:=E5c (u1b HY.out);have HEQ:=hZ e;clear e
       go_wp2_with fail
       go_returns;exact ⟨by rw [HEQ.out];rfl,HE.out⟩
     have t0:(y == x)=false:=by simpa using he
     have HN:=hZ he;clear he
     go_wp2_with fail
     go_roundg (n-(j+1))
     case measure=>omega
     case rel=>
      refine ⟨j+1,by omega,by omega,by go_num,(show Aside _ from HE.out),(show Aside _ from fun m z hm hz=>?_)⟩
      by_cases e:m=j
      . subst e;rw [HY.out] at hz
        cases hz
        exact HN.out
      exact HA.out m z (by omega) hz
   have hjn:j=n:=by omega
   subst hjn;have tk:decide ((j:Int) < (j:Int))=false:=dF;have e:decide (x ∈ l)=false:=by
    apply D7c;intro hm;obtain ⟨m,hm⟩:=t6b.1 hm;have hml:m < l.length:=by
     rcases G3c m l.length with h | h
     . exact h
     rw [s9b h] at hm
     cases hm
    exact HA.out m x (by rw [<- HL.out];exact hml) hm rfl
   have HEQ:=hZ e;clear e
   go_wp2_with fail
   go_returns;exact ⟨by rw [HEQ.out];rfl,HE.out⟩
theorem d0a:l=Nd.upto n ↔ l.length=n /\ ∀ m y,Hp.rd l m=some y->y=(m:Int):=by
 constructor
 . rintro rfl;refine ⟨Nd.R7a n,fun m y h=>?_⟩;unfold Hp.rd Nd.upto at h;rw [y7b] at h
   cases hr:(List.range n)[m]? with
   | none=>rw [hr] at h;cases h
   | some k=>
    rw [hr] at h;obtain ⟨hm,e⟩:=q5b.1 hr;rw [x0b] at e
    cases h
    rw [e];rfl
 rintro ⟨h1,h2⟩
 apply y2b 
 intro i
 by_cases hi:i < l.length
 . have e:=h2 i l[i] (r1b hi);rw [r1b hi,e];unfold Nd.upto;rw [y7b,List.getElem?_range (by omega)];rfl
 rw [s9b (by omega),s9b (by rw [Nd.R7a];omega)]
theorem p3b (h:SliceAt w p c l) (k:Nat) :
    Calls prog 155 #[.slice p l.length c,.int .i64 k] w (Rt w (.bool (decide (l=Nd.upto k)))):=by
  have hle:=h.le;have hcap:=h.cap;have H:=hZ h;clear h;generalize hL:l.length=n at hle ⊢;have HL:=hZ hL;clear hL;go_enter func155,ntmps155;go_wp2
  go_loopg [5] n (fun g i wr=>∃ j:Nat,j<=n/\n-j<=g/\i = .int .i64 j/\Aside (Ext w wr)/\Aside (∀ m y,m < j->Hp.rd l m=some y->y=(m:Int)))
  case atStart=>exact ⟨0,G9c _,by omega,rfl,Ext.refl w,fun m y hm=>absurd hm (D0c _)⟩
  case round=>
   obtain ⟨j,hj,hg,rfl,HE,HA⟩:=hrel
   by_cases hlt:j < n
   . obtain ⟨y,hy⟩:=A4a (l:=l) (j:=j) (by rw [HL.out];exact hlt);obtain ⟨b,o,rfl,hb,hc⟩:=(H.out.ext HE.out).cells (by rw [HL.out];omega);have g1:=hc j y hy;have tk:decide ((j:Int) < (n:Int))=true:=dT;have HY:=hZ hy;clear hc hy
     by_cases he:y=(j:Int)
     . subst he;have t0:((j:Int) != (j:Int))=false:=by simp
       go_wp2_with fail
       go_roundg (n-(j+1))
       case measure=>omega
       case rel=>
        refine ⟨j+1,by omega,by omega,by go_num,(show Aside _ from HE.out),(show Aside _ from fun m z hm hz=>?_)⟩
        by_cases e:m=j
        . subst e;rw [HY.out] at hz
          cases hz
          rfl
        exact HA.out m z (by omega) hz
     have t0:(y != (j:Int))=true:=by simpa using he
     have e:decide (l=Nd.upto k)=false:=by
      apply D7c;intro e;exact he ((d0a.1 e).2 j y HY.out)
     have HEQ:=hZ e;clear e he
     go_wp2_with fail
     go_returns;exact ⟨by rw [HEQ.out];rfl,HE.out⟩
   have hjn:j=n:=by omega
   subst hjn;have tk:decide ((j:Int) < (j:Int))=false:=dF;have e:decide (l=Nd.upto k)=((j:Int) == (k:Int)):=by
    by_cases hk:j=k
    . subst hk
      have:l=Nd.upto j:=d0a.2 ⟨HL.out,fun m y hy=>HA.out m y (by
       have:m < l.length:=by
        rcases G3c m l.length with h | h
        . exact h
        rw [show Hp.rd l m=l[m]? from rfl,s9b h] at hy
        cases hy
       have:=HL.out;omega) hy⟩
      rw [E5c this];simp
    have:¬ l=Nd.upto k:=fun e=>hk (by rw [<- HL.out];exact (d0a.1 e).1)
    rw [D7c this]
    symm
    simp only [beq_eq_false_iff_ne,ne_eq];omega
   have HEQ:=hZ e;clear e
   go_wp2_with fail
   go_returns;exact ⟨by rw [HEQ.out];rfl,HE.out⟩
def refB (r:Int) (below:Nat) (ne:Nat):Bool:=if 0<=r then decide (r < below) else decide (-1-r < ne)
theorem F8b {d:Nd.Dia} {r:Int}:refB r n d.ends.length=true ↔ d.Ref r n:=by
 unfold refB Nd.Dia.Ref
 split <;> simp <;> omega
theorem dIsRef (L:DgL) (zs os es ns:Nat) (x r:Int) (b:Nat) (he:es<=1000000) (hr : -9223372036854775808<=r/\r<=9223372036854775807) :
    Calls prog 176 #[dgV L zs os es ns x,.int .i64 r,.int .i64 b] w (Rt w (.bool (refB r b es))):=by
  unfold dgV DgL.cells
  by_cases h:0<=r
  . have e:refB r b es=decide (r < (b:Int)):=by unfold refB;rw [H5c h]
    rw [e];clear e;have tk:decide (0<=r)=true:=E5c h;clear h;go_enter func176,ntmps176
    go_wp2_with fail
    go_returns;exact ⟨rfl,exx⟩
  have e:refB r b es=Hp.within 0 ((es:Int)-1) (-1-r):=by
   unfold refB Hp.within;rw [H4c h];have t1:decide (0 <= -1-r)=true:=dT;rw [t1,F5c]
   by_cases h2 : -1-r < (es:Int)
   . rw [E5c h2,dT]
   rw [D7c h2,dF]
  rw [e];clear e;have tk:decide (0<=r)=false:=D7c h;have s1:IntKind.i64.wrap (-1-r) = -1-r:=E4c _ (by omega);have s2:IntKind.i64.wrap ((es:Int)-1)=(es:Int)-1:=E4c _ (by omega);have HI:=hZ (fun W=>dIn (-1-r) 0 ((es:Int)-1) W);clear h;go_enter func176,ntmps176
  go_wp2_with (go_at_call 66;refine m4_ (HI.out _) fun w1 hb1 hc1 hf1 hs1=>?_)
  go_returns;exact ⟨rfl,exx⟩
theorem d7b {v:Int} (hA:∀ m y,m < j->Hp.rd o m=some y->y ≠ v) (hj:Hp.rd o j=some v):Hp.index o v=(j:Int):=by
 unfold Hp.index
 have:o.findIdx? (· == v)=some j:=by
  rw [p4b];obtain ⟨hl,e⟩:=q5b.1 hj;refine ⟨hl,by simp [e],fun i hi=>?_⟩;have:=hA i o[i] hi (r1b (by omega))
  simpa using this
 rw [this]
theorem index_none {v:Int} (hA:∀ m y,m < o.length->Hp.rd o m=some y->y ≠ v):Hp.index o v = -1:=by
 unfold Hp.index
 have:o.findIdx? (· == v)=none:=by
  rw [q7b];intro y hy;obtain ⟨m,hm⟩:=t6b.1 hy;obtain ⟨hl,_⟩:=q5b.1 hm
  simpa using hA m y hl hm
 rw [this]
def O4a (d:Nd.Dia) (r:Int):Int:=if r < 0 then d.order.length else if Hp.index d.order (d.nodeAt r.toNat).1 < 0 then d.order.length else Hp.index d.order (d.nodeAt r.toNat).1
theorem dRank {L:DgL} {d:Nd.Dia} (h:DgRd w L d.sizes d.order d.ends d.nodes) (r:Int) (hr:r < d.nodes.length) :
    Calls prog 177 #[dgV L d.sizes.length d.order.length d.ends.length d.nodes.length d.root,.int .i64 r] w (Rt w (.int .i64 (O4a d r))):=by
  have hle:=h.o.le;have hcap:=h.o.cap;have hnl:=h.n.le;rw [A7a h.kl] at hnl;have H:=hZ h;have HR:=hZ hr;clear h;unfold dgV DgL.cells
  by_cases h0:r < 0
  . have e:O4a d r=d.order.length:=by unfold O4a;rw [H5c h0]
    rw [e];clear e;have tk:decide (0<=r)=false:=dF;clear h0 hr;generalize d.sizes.length=n1 at *;generalize d.order.length=n2 at *;generalize d.ends.length=n3 at *;generalize d.nodes.length=n4 at *;go_enter func177,ntmps177
    go_wp2_with fail
    go_loopg [5] 1 (fun g i wr=>i = .int .i64 0/\0 < g+1/\Aside (Ext w wr)/\wr.cell? ⟨w.heap.size,1,none⟩=some (.slice L.po n2 L.co))
    case atStart=>exact ⟨rfl,by omega,(show Aside _ from (show Ext w _ from exx)),by go_simp⟩
    case round=>
     obtain ⟨rfl,_,HE,HC⟩:=hrel
     go_wp2_with fail
     go_returns;exact ⟨rfl,HE.out⟩
  obtain ⟨q,hq⟩:=A5a (E:=d.nodes) (j:=r.toNat) (by omega);obtain ⟨k,hk⟩:=A5a (E:=L.K) (j:=r.toNat) (by rw [H.out.kl];omega);obtain ⟨nb,no,hpn,hnb,hnc⟩:=H.out.node_cells (by omega);have gq:=(hnc _ q k hq hk).1;have hqa:d.nodeAt r.toNat=q:=by unfold Nd.Dia.nodeAt;rw [hq];rfl
  have e:O4a d r=if Hp.index d.order q.1 < 0 then (d.order.length:Int) else Hp.index d.order q.1:=by unfold O4a;rw [H4c h0,hqa]
  have HRK:=hZ e;generalize O4a d r=R at *;clear e hqa hq hk hnc;obtain ⟨m,rfl⟩:∃ m:Nat,r=(m:Int):=⟨r.toNat,by omega⟩
  rw [z5b] at gq;have hm:m < d.nodes.length:=by omega
  have tk:decide (0<=(m:Int))=true:=dT;clear h0 hr;generalize q.1=q1 at *;clear q;generalize hN:d.order.length=n2 at *;have HN:=hZ hN;clear hN;generalize d.sizes.length=n1 at *;generalize d.ends.length=n3 at *;generalize d.nodes.length=n4 at *;rw [hpn];go_enter func177,ntmps177
  go_wp2_with fail
  go_loopg [5] n2 (fun g i wr=>∃ j:Nat,j<=n2/\n2-j<=g/\i = .int .i64 j/\Aside (Ext w wr)/\wr.cell? ⟨w.heap.size,1,none⟩=some (.slice L.po n2 L.co)/\wr.cell? ⟨w.heap.size,3,none⟩=some (.slice (some ⟨nb,no,none⟩) n4 L.cn)/\Aside (∀ m y,m < j->Hp.rd d.order m=some y->y ≠ q1))
  case atStart=>exact ⟨0,by omega,by omega,rfl,(show Aside _ from (show Ext w _ from exx)),by go_simp,by go_simp,(show Aside _ from fun m y hm=>absurd hm (D0c _))⟩
  case round=>
   obtain ⟨j,hj,hg,rfl,HE,HC,HC3,HA⟩:=hrel
   by_cases hlt:j < n2
   . obtain ⟨y,hy⟩:=A4a (l:=d.order) (j:=j) (by rw [HN.out];exact hlt);obtain ⟨b,o,hpo,hb,hc⟩:=(H.out.o.ext HE.out).cells (by rw [HN.out];omega);rw [hpo] at HC;have g1:=hc j y hy;have g2:=HE.out.q gq;have tk1:decide ((j:Int) < (n2:Int))=true:=dT;have HY:=hZ hy;clear hc hy
     by_cases he:y=q1
     . subst he;have e:Hp.index d.order y=(j:Int):=d7b (HA.out) HY.out;have HEQ:=hZ e;clear e
       go_wp2_with fail
       go_region_o
       go_wp2;go_returns;refine ⟨?_,HE.out.drew⟩;rw [HRK.out,HEQ.out,H4c (by omega)];rfl
     have t0:(y == q1)=false:=by simpa using he
     have HNE:=hZ he;clear he
     go_wp2_with fail
     go_region_o
     go_wp2
     go_roundg (n2-(j+1))
     case measure=>omega
     case rel=>
      refine ⟨j+1,by omega,by omega,by go_num,(show Aside _ from HE.out.drew),(by rw [hpo];go_simp),(by go_simp),(show Aside _ from fun m y' hm hy=>?_)⟩
      by_cases e:m=j
      . subst e;rw [HY.out] at hy
        cases hy
        exact HNE.out
      exact HA.out m y' (by omega) hy
   have hjn:j=n2:=by omega
   subst hjn;have tk1:decide ((j:Int) < (j:Int))=false:=dF;have e:Hp.index d.order q1 = -1:=index_none (by rw [HN.out];exact HA.out);have HEQ:=hZ e;clear e
   go_wp2_with fail
   go_returns;refine ⟨?_,HE.out⟩;rw [HRK.out,HEQ.out,H5c (by omega)];rfl
theorem G4a.h4a {P:Program} {t:TypeId} (h:G4a P w g M) (hk:P.underlying 3=some (.int .i64)) (ht:P.underlying t=some (.map 3 3)) (hz:(zeroValue 3).run P w = .ok (.int .i64 0) w) (hk2:(k:Int)<=9223372036854775807) :
    (Instr.lookup t (.map (some g)) (.int .i64 k) true).run P w = .ok (.tuple #[.int .i64 ((getI k M).getD 0),.bool (getI k M).isSome]) w:=by
  have wf:(Lit.int .i64 k).wf=true:=WalkArith.wf_i64 (by omega);obtain ⟨v,ps,hrun,hv⟩:=h.owns.look_ok (int_keyed hk) ht hz (plainElem_int hk (by decide)) (keyOf_int_mk hk wf);obtain ⟨c,rfl,hc,hwc⟩:=plainElem_int_inv hk hv;rw [hrun];have e1:Maps.has (J2a M) (.int .i64 k)=(getI k M).isSome:=by
   cases hh:(getI k M).isSome with
   | true=>exact (Q0a M _).2 ⟨k,rfl,hh⟩
   | false=>
    cases hq:Maps.has (J2a M) (.int .i64 k) with
    | false=>rfl
    | true=>
     obtain ⟨n,e,hn⟩:=(Q0a M _).1 hq;injection e with _ e
     have:n=k:=by omega
     subst this;rw [hh] at hn
     cases hn
  have e2:c=(getI k M).getD 0:=by
   simp only [F1c] at hc;have hat:=hc.1;rw [a7a] at hat
   cases hg:getI k M with
   | none=>
    rw [hg] at hat;simp only at hat;injection hat with hat
    injection hat with _ hat
    exact hat.symm
   | some v=>
    rw [hg] at hat;simp only at hat;injection hat with hat
    injection hat with _ hat
    exact hat.symm
  rw [e1,e2]
theorem cells2 {x y:Value} (h0:w.cell? ⟨b,0,none⟩=some x) (h1:w.cell? ⟨b,1,none⟩=some y):∀ (i:Nat) (v:Value),[x,y][i]? = some v->w.cell? ⟨b,i,none⟩=some v
 | 0,v,h=>by simp at h;rw [<- h];exact h0
 | 1,v,h=>by simp at h;rw [<- h];exact h1
 | i+2,v,h=>by simp at h
theorem But.over {l l':List Nat} {a b c:World} (h:But l a b) (k:But l' b c) (hl:∀ x ∈ l',x ∈ l \/ a.heap.size<=x):But l a c:=
 ⟨k.os.trans h.os,k.tape.trans h.tape,k.output.trans h.output,G5c h.size k.size,fun i hi hn=>(k.block i (x4b hi h.size) (fun hm=>by
  rcases hl i hm with hm | hm
  . exact hn hm
  . omega)).trans (h.block i hi hn)⟩
open Go.RowKit Go.Maps
section
variable {P:Program} {ops:Array Oper} {Q:Exit->Act->World->Prop} {md:Region.Mode} {S:World->Prop}
theorem H5a {oi:Oper} {fuel:Nat} {listed:Array Bool} {a:Act} {f:FuncId} {args:Array Value} (i:Nat) (hi:ops[i]? = some oi) (hr:Region.ready md ops listed=[i]) (hw:Region.wanted oi (yielded ops a.tmps)=true)
    (hrun:(execOp a.eval oi).run P w = .ok (.enter f args) w) (hc:Calls P f args w fun e w'=>∃ v,e = .returned v/\S w'/\B7a P md ops Q S Eq fuel (listed.setIfInBounds i true) (a.put oi.dst v) w'):B7a P md ops Q S Eq (fuel+1) listed a w:=by
  intro w' r s;subst r;refine ⟨fun e=>(by rw [hr] at e;cases e),fun j hj=>?_⟩
  rw [hr] at hj;rw [w8b.1 hj];unfold Go.wpOp;simp only [hi];rw [H5c hw];refine .inl ?_;unfold Oper.wp;rw [hrun];refine hc.mono ?_;rintro e w'' ⟨v,rfl,hk⟩;exact hk
theorem V4a {oi:Oper} {fuel:Nat} {listed:Array Bool} {a:Act} (i:Nat) (hi:ops[i]? = some oi) (hr:Region.ready md ops listed=[i]) (hw:Region.wanted oi (yielded ops a.tmps)=true)
    (hrun:(execOp a.eval oi).run P w = .ok .skip w') (hS:S w') (h:B7a P md ops Q S Eq fuel (listed.setIfInBounds i true) (a.put oi.dst undef) w'):B7a P md ops Q S Eq (fuel+1) listed a w:=by
  intro w2 r s;subst r;refine ⟨fun e=>(by rw [hr] at e;cases e),fun j hj=>?_⟩
  rw [hr] at hj;rw [w8b.1 hj];unfold Go.wpOp;simp only [hi];rw [H5c hw];refine .inl ?_;unfold Oper.wp;rw [hrun];exact ⟨hS,h⟩
end
theorem o4a (h:SliceAt w p c l) (hl:l.length<=1000000) :
    Calls prog 60 #[.slice p l.length c] w fun e w'=>∃ p' c',e = .returned (.slice p' l.length c')/\SliceAt w' p' c' l/\Ext w w' /\ ∀ b ∈ blk p',w.heap.size<=b/\b < w'.heap.size:=by
  by_cases h0:0 < l.length
  . refine (G7a h (.inl h0) hl).mono ?_;rintro e w' ⟨p',c',rfl,hR,hE,hg⟩;obtain ⟨g,rfl⟩:=hg h0;exact ⟨_,_,rfl,hR.at_,hE,fun b hb=>by have:=hR.far rfl;have:=hR.lt rfl;simp [blk] at hb;omega⟩
  have hl0:l=[]:=p8b (by omega);subst hl0;have q22:∀ (w:World) (a:Option Addr) (n c n' c':Nat),(binOp .eql 22 (.slice a n c) (.slice none n' c')).run prog w = .ok (.bool a.isNone) w:=fun w a n c n' c'=>Lib.run_eql_slice_nil w _ _ a n c n' c' underlying22
  have hc:=h.cap;clear h h0
  cases p with
  | none=>
   go_enter func60,ntmps60;go_wp2;go_returns;exact ⟨none,0,rfl,⟨H0c _,by omega,by simp,fun h=>by simp at h⟩,exx,by simp [blk]⟩
  | some a=>
   simp only [C8c];go_enter func60,ntmps60;go_wp2;go_returns;exact ⟨some ⟨w.heap.size,0,none⟩,0,rfl,⟨H0c _,by omega,by simp,fun h=>by simp at h⟩,exx,fun b hb=>by simp [blk] at hb ⊢;omega⟩
structure Own5 (W:World) (g:Nat) (c0 c1 c2 c3 c4:Value):Prop where
 a0:W.cell? ⟨g,0,none⟩=some c0
 a1:W.cell? ⟨g,1,none⟩=some c1
 a2:W.cell? ⟨g,2,none⟩=some c2
 a3:W.cell? ⟨g,3,none⟩=some c3
 a4:W.cell? ⟨g,4,none⟩=some c4
 z:∀ o,W.frozen? ⟨g,o,none⟩=false
namespace Own5
variable {W W':World} {g:Nat} {c0 c1 c2 c3 c4 d0 d1 d2 d3 d4:Value}
theorem but (h:Own5 W g c0 c1 c2 c3 c4) {l:List Nat} (k:But l W W') (hg:g ∉ l):Own5 W' g c0 c1 c2 c3 c4:=by
 have z:=cell_lt h.a0
 exact ⟨(k.cell z hg 0).trans h.a0,(k.cell z hg 1).trans h.a1,(k.cell z hg 2).trans h.a2,(k.cell z hg 3).trans h.a3,(k.cell z hg 4).trans h.a4,fun o=>(k.frozen z hg o).trans (h.z o)⟩
theorem ext (h:Own5 W g c0 c1 c2 c3 c4) (k:Ext W W'):Own5 W' g c0 c1 c2 c3 c4:=h.but (l:=[]) (But.E7a k) (by simp)
theorem set (h:Own5 W g c0 c1 c2 c3 c4):Own5 (((((W.setCell ⟨g,0,none⟩ d0).setCell ⟨g,1,none⟩ d1).setCell ⟨g,2,none⟩ d2).setCell ⟨g,3,none⟩ d3).setCell ⟨g,4,none⟩ d4) g d0 d1 d2 d3 d4:=by
 obtain ⟨a0,a1,a2,a3,a4,z⟩:=h
 exact ⟨by simp [go_sem,a0],by simp [go_sem,a1],by simp [go_sem,a2],by simp [go_sem,a3],by simp [go_sem,a4],fun o=>by simp [go_sem,z]⟩
end Own5
open Go.RowKit Go.Maps
structure DgIn (d:Nd.Dia):Prop where
 zl:d.sizes.length<=6
 el:d.ends.length<=1000000
 nl:d.nodes.length<=1000000
 f:∀ v ∈ d.ends,0<=v.1
 kids:∀ q ∈ d.nodes,∀ k ∈ q.2,-9223372036854775808<=k/\k<=9223372036854775807
 root : -9223372036854775808<=d.root/\d.root<=9223372036854775807
def kidB (d:Nd.Dia) (i:Nat) (k:Int):Bool:=refB k i d.ends.length && decide (¬ O4a d k<=O4a d i)
def G5a (d:Nd.Dia) (i:Nat):Bool:=Hp.within 0 ((d.sizes.length:Int)-1) (d.nodeAt i).1 && decide (((d.nodeAt i).2.length:Int)=d.sizes.getD (d.nodeAt i).1.toNat 0) && (d.nodeAt i).2.all (kidB d i)
def I2a (d:Nd.Dia):Bool:=d.ends.all F0a && (List.range d.nodes.length).all (G5a d) && refB d.root d.nodes.length d.ends.length
theorem U0a {α:Type} {l:List α} {p:α->Bool} {x:α} (h:l[j]? = some x) (hp:p x=false):l.all p=false:=by
 rw [List.all_eq_false]
 exact ⟨x,u1b h,by simp [hp]⟩
theorem f6a {α:Type} {l:List α} {p:α->Bool} (h:∀ (m:Nat) (x:α),l[m]? = some x->p x=true):l.all p=true:=by
 rw [A7c]
 intro x hx
 obtain ⟨m,hm⟩:=t6b.1 hx
 exact h m x hm
theorem I8a {d:Nd.Dia} (hi:i < d.nodes.length) (h:G5a d i=false):I2a d=false:=by
 unfold I2a
 rw [U0a (l:=List.range d.nodes.length) (j:=i) (x:=i) (by rw [List.getElem?_range hi]) h]
 simp
theorem a6b {L:DgL} {d:Nd.Dia} (h:DgRd w L d.sizes d.order d.ends d.nodes) (hI:DgIn d) :
    Calls prog 153 #[dgV L d.sizes.length d.order.length d.ends.length d.nodes.length d.root] w (Rt w (.bool (I2a d))):=by
  obtain ⟨zl,el,nl,hf,hkr,hroot⟩:=hI;have H:=hZ h;have l1:=h.s.le;have l2:=h.o.le;have l3:=h.e.le;have l4:=h.n.le;rw [C6c] at l3;rw [A7a h.kl] at l4;have HF:=hZ hf;have HKR:=hZ hkr;have HROOT:=hZ hroot;have RK:=hZ (fun W (hE:Ext w W) r hr=>dRank (h.ext hE) r hr);have RF:=hZ (fun W r b hr=>dIsRef (w:=W) L d.sizes.length d.order.length d.ends.length d.nodes.length d.root r b el hr);unfold dgV DgL.cells at RK RF ⊢;clear h hf hkr hroot;generalize h1:d.sizes.length=n1 at *;generalize h2:d.order.length=n2 at *;generalize h3:d.ends.length=n3 at *;generalize h4:d.nodes.length=n4 at *;generalize hr:d.root=rt at *;have H1:=hZ h1;have H3:=hZ h3;have H4:=hZ h4;have HR:=hZ hr;clear h1 h2 h3 h4 hr;generalize hres:I2a d=res;have HRES:=hZ hres;clear hres;go_enter func153,ntmps153
  go_wp2_with fail
  refine B0a (F:=fun W=>Hid (Ext w W)/\Own5 W w.heap.size (.slice L.ps n1 L.cs) (.slice L.po n2 L.co) (.slice L.pe n3 L.ce) (.slice L.pn n4 L.cn) (.int .i64 rt)) ⟨hZ (exx),by go_simp,by go_simp,by go_simp,by go_simp,by go_simp,fun o=>by go_simp⟩ ?_;intro w0 ⟨E0,O0⟩;generalize w.heap.size=g at O0 ⊢;have H0:=hZ (H.out.ext E0.out)
  go_loopg [3] n3 (fun gg i wr=>∃ j:Nat,j<=n3/\n3-j<=gg/\i = .int .i64 j/\Aside (Ext w0 wr)/\Aside (∀ m x,m < j->d.ends[m]? = some x->F0a x=true))
  case atStart=>exact ⟨0,by omega,by omega,rfl,(show Aside _ from Ext.refl _),(show Aside _ from fun m x hm=>absurd hm (D0c _))⟩
  case round=>
   obtain ⟨j,hj,hg,rfl,HE,HA⟩:=hrel;obtain ⟨a0,a1,a2,a3,a4,az⟩:=O0.ext HE.out
   by_cases hlt:j < n3
   . obtain ⟨v,hv⟩:=A5a (E:=d.ends) (j:=j) (by rw [H3.out];exact hlt);obtain ⟨b,o,hpe,hb,hc⟩:=(H0.out.ext HE.out).e.L0a (by rw [H3.out];omega);obtain ⟨g1,g2⟩:=hc j v hv;rw [hpe] at a2;have tk:decide ((j:Int) < (n3:Int))=true:=dT;have IC:=hZ (fun W=>m6b (w:=W) v.1 v.2 (HF.out v (u1b hv)));have HV:=hZ hv;clear hc hv hpe
     cases hok:F0a v with
     | true=>
      simp only [hok] at IC;have HOK:=hZ hok;clear hok
      go_wp2_with (go_at_call 134;refine m4_ (IC.out _) fun w1 hb1 hc1 hf1 hs1=>?_)
      go_roundg (n3-(j+1))
      case measure=>omega
      case rel=>
       refine ⟨j+1,by omega,by omega,by go_num,(show Aside _ from HE.out.trans hb1),(show Aside _ from fun m x hm hx=>?_)⟩
       by_cases e:m=j
       . subst e;rw [HV.out] at hx
         cases hx
         exact HOK.out
       exact HA.out m x (by omega) hx
     | false=>
      simp only [hok] at IC;have e:res=false:=by
       rw [<- HRES.out];unfold I2a;rw [U0a HV.out hok];rfl
      subst e;clear hok
      go_wp2_with (go_at_call 134;refine m4_ (IC.out _) fun w1 hb1 hc1 hf1 hs1=>?_)
      go_returns;exact ⟨rfl,(E0.out.trans HE.out).trans hb1⟩
   have hjn:j=n3:=by omega
   have tk:decide ((j:Int) < (n3:Int))=false:=dF
   have EA:=hZ (f6a fun m x hx=>HA.out m x (by
    have:=(q5b.1 hx).1;rw [H3.out] at this;omega) hx)
   clear HA hjn
   go_wp2_with fail
   go_loopg [4] n4 (fun gg i wr2=>∃ j:Nat,j<=n4/\n4-j<=gg/\i = .int .i64 j/\Aside (Ext w0 wr2)/\Aside (∀ m,m < j->G5a d m=true))
   case atStart=>exact ⟨0,by omega,by omega,rfl,(show Aside _ from HE.out),(show Aside _ from fun m hm=>absurd hm (D0c _))⟩
   case round=>
    obtain ⟨i,hj,hg,rfl,HE2,HA⟩:=hrel;clear HE;obtain ⟨a0,a1,a2,a3,a4,az⟩:=O0.ext HE2.out
    by_cases hlt:i < n4
    . obtain ⟨q,hq⟩:=A5a (E:=d.nodes) (j:=i) (by rw [H4.out];exact hlt);obtain ⟨⟨kp,kc⟩,hk⟩:=A5a (E:=L.K) (j:=i) (by rw [H.out.kl,H4.out];exact hlt);have HW:=hZ (H0.out.ext HE2.out);obtain ⟨b,o,hpn,hb,hc⟩:=HW.out.node_cells (by rw [H4.out];omega);obtain ⟨g1,g2⟩:=hc i q _ hq hk;simp only at g2;have SK:=hZ (HW.out.ks i q _ hq hk);simp only at SK;have hqa:d.nodeAt i=q:=by unfold Nd.Dia.nodeAt;rw [hq];rfl
      have HQ:=hZ hqa;have HKR1:=hZ (HKR.out q (u1b hq));rw [hpn] at a3;have tk:decide ((i:Int) < (n4:Int))=true:=dT;clear hc hq hk hpn hqa;obtain ⟨q1,q2⟩:=q;simp only at g1 g2 SK HKR1;have kl:=SK.out.le;have kcap:=SK.out.cap;have IN:=hZ (fun W=>dIn q1 0 ((n1:Int)-1) W);have sb:IntKind.i64.wrap ((n1:Int)-1)=(n1:Int)-1:=E4c _ (by omega)
      go_wp2_with fail
      refine B0a (F:=fun W=>Hid (Ext wr W)/\W.cell? ⟨wr.heap.size,0,none⟩=some (.int .i64 q1)/\W.cell? ⟨wr.heap.size,1,none⟩=some (.slice kp q2.length kc)) ⟨hZ (exx),by go_simp,by go_simp⟩ ?_;intro w3 ⟨E3,c0,c1⟩;generalize wr.heap.size=gb at c0 c1 ⊢;have O3:=hZ ((O0.ext HE2.out).ext E3.out);have SK3:=hZ (SK.out.ext E3.out);have HW3:=hZ (HW.out.ext E3.out);have EX:=hZ ((E0.out.trans HE2.out).trans E3.out);clear a0 a1 a2 a3 a4 az g1 g2 SK HW;obtain ⟨b0,b1,b2,b3,b4,bz⟩:=id O3.out;have zg:=cell_lt b0;have zb:=cell_lt c0
      cases hw:Hp.within 0 ((n1:Int)-1) q1 with
      | false=>
       have e:res=false:=by
        rw [<- HRES.out];refine I8a (i:=i) (by rw [H4.out];exact hlt) ?_;unfold G5a;rw [HQ.out,H1.out,hw];rfl
       subst e;simp only [hw] at IN;clear hw;have pr37a:=Ext.r b0
       have pr37b:=Ext.r c0
       refine rg0 w3 ?_
       refine' tkd 0 ?_;refine' tkd 2 ?_;refine' tkd 4 ?_;refine' tkR 6 (v:=.bool false) rfl (Or.inr ⟨by rfl,66,_, ?hx6_1138, ?hy6_1138⟩) ?rest6_1138
       case hx6_1138=>(intro w hSw;go_simp;try with_reducible rfl)
       case hy6_1138=>exact fun w hE=>(IN.out _).mono (fun _ _ h=>⟨h.1,h.2,Ext.trans hE h.2⟩)
       refine layy ?_;refine' tkd 7 ?_;refine' tkN 9 ?_;refine' tkN 10 ?_;refine' tkN 11 ?_;refine' tkN 12 ?_;refine' tkN 13 ?_;refine' tkN 14 ?_;refine' tkN 15 ?_;refine' tkN 16 ?_;refine' tkN 17 ?_;refine' tkN 18 ?_;refine' tkL 19 ?_;refine A0a (by kernel_rfl) ?_ _;intro x1 _ Ex1;clear pr37a pr37b
       go_wp2_with fail
       go_returns;exact ⟨rfl,EX.out.trans Ex1⟩
      | true=>
       have hwi:0<=q1/\q1<=(n1:Int)-1:=by simpa [Hp.within] using hw
       have HWI:=hZ hw;simp only [hw] at IN;clear hw;obtain ⟨m,rfl⟩:∃ m:Nat,q1=(m:Int):=⟨q1.toNat,by omega⟩
       obtain ⟨sz,hsz⟩:=A4a (l:=d.sizes) (j:=m) (by rw [H1.out];omega);obtain ⟨bs,os,hps,hbs,hcs⟩:=HW3.out.s.cells (by rw [H1.out];omega);have gs:=hcs m sz hsz;have hml:m < n1:=by omega
       have hgd:d.sizes.getD m 0=sz:=by rw [q1b,show d.sizes[m]? = some sz from hsz];rfl
       rw [hps] at b0;clear hcs hsz hps hwi;have hbr:G5a d i=(decide ((q2.length:Int)=sz) && q2.all (kidB d i)):=by
        unfold G5a;rw [HQ.out,H1.out,HWI.out];simp only [F5c,z5b,hgd]
       have HBR:=hZ hbr;clear hbr hgd
       by_cases hne:(q2.length:Int)=sz
       . have t0:((q2.length:Int) != sz)=false:=by simpa using hne
         have HNE:=hZ hne;clear hne;have pr38a:=Ext.r b0
         have pr38b:=Ext.r c0;have pr38c:=Ext.r c1;have pr38d:=Ext.r gs
         refine rg0 w3 ?_
         refine' tkd 0 ?_;refine' tkd 2 ?_;refine' tkd 4 ?_;refine' tkR 6 (v:=.bool true) rfl (Or.inr ⟨by rfl,66,_, ?hx6_1158, ?hy6_1158⟩) ?rest6_1158
         case hx6_1158=>(intro w hSw;go_simp;try with_reducible rfl)
         case hy6_1158=>exact fun w hE=>(IN.out _).mono (fun _ _ h=>⟨h.1,h.2,Ext.trans hE h.2⟩)
         refine layy ?_;refine' tkd 7 ?_;refine' tkd 9 ?_;refine' tkd 11 ?_;refine' tkd 13 ?_;refine' tkd 15 ?_;refine' tkd 17 ?_;refine' tkL 19 ?_;refine A0a (by kernel_rfl) ?_ _;intro x1 _ Ex1;clear pr38a pr38b pr38c pr38d;clear b0 gs t0;have c1x:=Ex1.q c1;have zbx:=x4b zb Ex1.le
         go_wp2_with fail
         go_loopg [6] q2.length (fun gg i' wr4=>∃ k:Nat,k<=q2.length/\q2.length-k<=gg/\i' = .int .i64 k/\Aside (Ext w3 wr4)/\Aside (∀ m x,m < k->q2[m]? = some x->kidB d i x=true))
         case atStart=>exact ⟨0,by omega,by omega,rfl,(show Aside _ from Ex1),(show Aside _ from fun m x hm=>absurd hm (D0c _))⟩
         case round=>
          obtain ⟨k,hkj,hg3,rfl,HE4,HA4⟩:=hrel;have c1w:=HE4.out.q c1;have zbw:=x4b zb HE4.out.le
          by_cases hlt4:k < q2.length
          . obtain ⟨x,hx⟩:=A4a (l:=q2) (j:=k) hlt4;obtain ⟨bk,ok,rfl,hbk,hck⟩:=(SK3.out.ext HE4.out).cells (by omega);have gk:=hck k x hx;have HX:=hZ hx;have hxr:=HKR1.out x (u1b hx);obtain ⟨d0,d1,d2,d3,d4,dz⟩:=id (O3.out.ext HE4.out);have zgw:=cell_lt d0;have RF1:=hZ (fun W=>RF.out W x i hxr);have tk4:decide ((k:Int) < (q2.length:Int))=true:=dT;have EX4:=hZ (EX.out.trans HE4.out);clear hck hx hxr;have FACTS:True:=trivial
            cases hrf:refB x i n3 with
            | false=>
             have e:res=false:=by
              rw [<- HRES.out];refine I8a (i:=i) (by rw [H4.out];exact hlt) ?_;rw [HBR.out,U0a HX.out (by unfold kidB;rw [H3.out,hrf];rfl)];simp
             subst e;simp only [hrf] at RF1;clear hrf
             go_wp2_with fail
             have pr39a:=Ext.r d0;have pr39b:=Ext.r d1;have pr39c:=Ext.r d2;have pr39d:=Ext.r d3;have pr39e:=Ext.r d4;have pr39f:=Ext.r c1w;have pr39g:=Ext.r gk
             refine rg0 wr ?_
             refine' tkd 0 ?_;refine' tkd 2 ?_;refine' tkd 4 ?_;refine' tkL 6 ?_;refine' tkR 7 (v:=.bool false) rfl (Or.inr ⟨by rfl,176,_, ?hx7_1179, ?hy7_1179⟩) ?rest7_1179
             case hx7_1179=>(intro w hSw;go_simp;try with_reducible rfl)
             case hy7_1179=>exact fun w hE=>(RF1.out _).mono (fun _ _ h=>⟨h.1,h.2,Ext.trans hE h.2⟩)
             refine layy ?_;refine' tkd 8 ?_;refine' tkN 10 ?_;refine' tkN 11 ?_;refine' tkN 12 ?_;refine' tkN 13 ?_;refine' tkN 14 ?_;refine' tkN 15 ?_;refine' tkN 16 ?_;refine' tkN 17 ?_;refine' tkN 18 ?_;refine' tkN 19 ?_;refine' tkN 20 ?_;refine' tkL 21 ?_;refine A0a (by kernel_rfl) ?_ _;intro x2 _ Ex2;clear pr39a pr39b pr39c pr39d pr39e pr39f pr39g
             go_wp2_with fail
             go_returns;exact ⟨rfl,EX4.out.trans Ex2⟩
            | true=>
             have hxn:x < (n4:Int):=by
              unfold refB at hrf
              split at hrf
              . have:=A2c hrf;omega
              omega
             have RK1:=hZ (fun W (hE:Ext wr W)=>RK.out W (((EX4.out)).trans hE) x hxn);have RK2:=hZ (fun W (hE:Ext wr W)=>RK.out W (((EX4.out)).trans hE) (i:Int) (by omega));have HRF:=hZ hrf;simp only [hrf] at RF1;clear hrf hxn
             by_cases hle:O4a d x<=O4a d (i:Int)
             . have e:res=false:=by
                 rw [<- HRES.out];refine I8a (i:=i) (by rw [H4.out];exact hlt) ?_;rw [HBR.out,U0a HX.out (by unfold kidB;rw [D7c (fun h=>h hle)];simp)];simp
               subst e;have tl:decide (O4a d x<=O4a d (i:Int))=true:=E5c hle;clear hle
               go_wp2_with fail
               have pr40a:=Ext.r d0;have pr40b:=Ext.r d1;have pr40c:=Ext.r d2;have pr40d:=Ext.r d3;have pr40e:=Ext.r d4;have pr40f:=Ext.r c1w;have pr40g:=Ext.r gk
               refine rg0 wr ?_
               refine' tkd 0 ?_;refine' tkd 2 ?_;refine' tkd 4 ?_;refine' tkL 6 ?_;refine' tkR 7 (v:=.bool true) rfl (Or.inr ⟨by rfl,176,_, ?hx7_1201, ?hy7_1201⟩) ?rest7_1201
               case hx7_1201=>(intro w hSw;go_simp;try with_reducible rfl)
               case hy7_1201=>exact fun w hE=>(RF1.out _).mono (fun _ _ h=>⟨h.1,h.2,Ext.trans hE h.2⟩)
               refine layy ?_;refine' tkd 8 ?_;refine' tkd 10 ?_;refine' tkd 12 ?_;refine' tkd 14 ?_;refine' tkR 16 (v:=.int .i64 (O4a d x)) rfl (Or.inr ⟨by rfl,177,_, ?hx16_1210, ?hy16_1210⟩) ?rest16_1210
               case hx16_1210=>(intro w hSw;go_simp;try with_reducible rfl)
               case hy16_1210=>exact fun w hE=>(RK1.out _ hE).mono (fun _ _ h=>⟨h.1,h.2,Ext.trans hE h.2⟩)
               refine layy ?_;refine' tkd 17 ?_;refine' tkR 19 (v:=.int .i64 (O4a d (i:Int))) rfl (Or.inr ⟨by rfl,177,_, ?hx19_1213, ?hy19_1213⟩) ?rest19_1213
               case hx19_1213=>(intro w hSw;go_simp;try with_reducible rfl)
               case hy19_1213=>exact fun w hE=>(RK2.out _ hE).mono (fun _ _ h=>⟨h.1,h.2,Ext.trans hE h.2⟩)
               refine layy ?_;refine' tkd 20 ?_;refine A0a (by kernel_rfl) ?_ _;intro x2 _ Ex2;clear pr40a pr40b pr40c pr40d pr40e pr40f pr40g
               go_wp2_with fail
               go_returns;exact ⟨rfl,EX4.out.trans Ex2⟩
             have tl:decide (O4a d x<=O4a d (i:Int))=false:=D7c hle;have HLE:=hZ hle;clear hle
             go_wp2_with fail
             have pr41a:=Ext.r d0;have pr41b:=Ext.r d1;have pr41c:=Ext.r d2;have pr41d:=Ext.r d3;have pr41e:=Ext.r d4;have pr41f:=Ext.r c1w;have pr41g:=Ext.r gk
             refine rg0 wr ?_
             refine' tkd 0 ?_;refine' tkd 2 ?_;refine' tkd 4 ?_;refine' tkL 6 ?_;refine' tkR 7 (v:=.bool true) rfl (Or.inr ⟨by rfl,176,_, ?hx7_1223, ?hy7_1223⟩) ?rest7_1223
             case hx7_1223=>(intro w hSw;go_simp;try with_reducible rfl)
             case hy7_1223=>exact fun w hE=>(RF1.out _).mono (fun _ _ h=>⟨h.1,h.2,Ext.trans hE h.2⟩)
             refine layy ?_;refine' tkd 8 ?_;refine' tkd 10 ?_;refine' tkd 12 ?_;refine' tkd 14 ?_;refine' tkR 16 (v:=.int .i64 (O4a d x)) rfl (Or.inr ⟨by rfl,177,_, ?hx16_1232, ?hy16_1232⟩) ?rest16_1232
             case hx16_1232=>(intro w hSw;go_simp;try with_reducible rfl)
             case hy16_1232=>exact fun w hE=>(RK1.out _ hE).mono (fun _ _ h=>⟨h.1,h.2,Ext.trans hE h.2⟩)
             refine layy ?_;refine' tkd 17 ?_;refine' tkR 19 (v:=.int .i64 (O4a d (i:Int))) rfl (Or.inr ⟨by rfl,177,_, ?hx19_1235, ?hy19_1235⟩) ?rest19_1235
             case hx19_1235=>(intro w hSw;go_simp;try with_reducible rfl)
             case hy19_1235=>exact fun w hE=>(RK2.out _ hE).mono (fun _ _ h=>⟨h.1,h.2,Ext.trans hE h.2⟩)
             refine layy ?_;refine' tkd 20 ?_;refine A0a (by kernel_rfl) ?_ _;intro x2 _ Ex2;clear pr41a pr41b pr41c pr41d pr41e pr41f pr41g
             go_wp2_with fail
             go_roundg (q2.length-(k+1))
             case measure=>omega
             case rel=>
              refine ⟨k+1,by omega,by omega,by go_num,(show Aside _ from HE4.out.trans Ex2),(show Aside _ from fun m y hm hy=>?_)⟩
              by_cases e:m=k
              . subst e;rw [show q2[m]? = some x from HX.out] at hy
                cases hy
                unfold kidB;rw [H3.out,HRF.out,F5c];exact E5c (by have:=HLE.out;omega)
              exact HA4.out m y (by omega) hy
          have hkn:k=q2.length:=by omega
          have tk4:decide ((k:Int) < (q2.length:Int))=false:=dF
          have HBT:Hid (G5a d i=true):=hZ (by
           rw [HBR.out,E5c HNE.out,f6a fun m y hy=>HA4.out m y (by
            have:=(q5b.1 hy).1;omega) hy]
           rfl)
          clear HA4 hkn
          go_wp2_with fail
          go_roundg (n4-(i+1))
          case measure=>omega
          case rel=>
           refine ⟨i+1,by omega,by omega,by go_num,(show Aside _ from (HE2.out.trans E3.out).trans HE4.out),(show Aside _ from fun m hm=>?_)⟩
           by_cases e:m=i
           . subst e;exact HBT.out
           exact HA.out m (by omega)
       have t0:((q2.length:Int) != sz)=true:=by simpa using hne
       have e:res=false:=by
        rw [<- HRES.out];refine I8a (i:=i) (by rw [H4.out];exact hlt) ?_;rw [HBR.out,D7c hne];rfl
       subst e;clear hne;have pr42a:=Ext.r b0
       have pr42b:=Ext.r c0;have pr42c:=Ext.r c1;have pr42d:=Ext.r gs
       refine rg0 w3 ?_
       refine' tkd 0 ?_;refine' tkd 2 ?_;refine' tkd 4 ?_;refine' tkR 6 (v:=.bool true) rfl (Or.inr ⟨by rfl,66,_, ?hx6_1244, ?hy6_1244⟩) ?rest6_1244
       case hx6_1244=>(intro w hSw;go_simp;try with_reducible rfl)
       case hy6_1244=>exact fun w hE=>(IN.out _).mono (fun _ _ h=>⟨h.1,h.2,Ext.trans hE h.2⟩)
       refine layy ?_;refine' tkd 7 ?_;refine' tkd 9 ?_;refine' tkd 11 ?_;refine' tkd 13 ?_;refine' tkd 15 ?_;refine' tkd 17 ?_;refine' tkL 19 ?_;refine A0a (by kernel_rfl) ?_ _;intro x1 _ Ex1;clear pr42a pr42b pr42c pr42d
       go_wp2_with fail
       go_returns;exact ⟨rfl,EX.out.trans Ex1⟩
    have tk:decide ((i:Int) < (n4:Int))=false:=dF;have hin:i=n4:=by omega
    have e:res=refB rt n4 n3:=by
     rw [<- HRES.out];unfold I2a;rw [EA.out,H3.out,H4.out,HR.out,f6a (l:=List.range n4) (p:=G5a d) fun m y hy=>by
      obtain ⟨hm,e⟩:=q5b.1 hy;rw [y5b] at hm;rw [x0b] at e;rw [<- e];exact HA.out m (by omega)]
     rfl
    subst e;clear hin HA;have RF2:=hZ (fun W=>RF.out W rt n4 HROOT.out)
    go_wp2_with (go_at_call 176;refine m4_ (RF2.out _) fun w2 hb2 hc2 hf2 hs2=>?_)
    go_returns;exact ⟨rfl,(E0.out.trans HE2.out).trans hb2⟩
theorem l9b {w:World} {ops:Array Oper} {rest:List Oper} {o:Oper} {a:Act} {Q:Exit->Act->World->Prop} (hgd:o.guard=none) (s x:Operand)
    (ho:o.op = .call { callee:=.builtin .append,args:=#[s,x],argTypes:=#[22,22] }) {c b:Nat} {p:Option Addr} {l:List Int} {y:Int} (hs:a.eval s = .slice p l.length c) (hx:a.eval x = .slice (some ⟨b,0,none⟩) 1 1)
    (hrow:Row w 0 p c l) (hy:w.cell? ⟨b,0,none⟩=some (.int .i64 y)) (hy1 : -9223372036854775808<=y) (hy2:y<=9223372036854775807) (hlen:l.length < 10000000)
    (h:∀ g cap w' row,Row w' 0 (some ⟨g,0,none⟩) cap (l ++ [y])->w.grownBy w' row->(∀ r,row=some r->p=some ⟨r,0,none⟩)->(p=some ⟨g,0,none⟩ \/ g=w.heap.size)->wpList prog ops Q rest (a.put o.dst (.slice (some ⟨g,0,none⟩) (l.length+1) cap)) w'):wpList prog ops Q (o :: rest) a w:=by
  obtain ⟨i0,hi,hz0,hz1,hz2⟩:=info_parts (show (prog.info? 3).map (fun i=>(i.zero,i.size,i.bytes))=some (some (.int .i64 0),1,8) from by kernel_rfl);refine wpList_append_lies w hgd s x 22 ho 0 3 i0 (.int .i64 0) 1 8 underlying22 hi hz0 hz1 hz2 rfl (by decide) _ _ _ hs hrow.1 ⟨b,0,none⟩ 1 1 [.int .i64 y] hx (by simp) (fun j u hj=>?_) (by simp [Value.oneCell']) (by omega) (by unfold maxLen;omega) (by omega) (G9c _) _ rfl ?_
  . cases j with
    | zero=>
     simp at hj;subst hj;rw [G8c];exact hy
    | succ j=>simp at hj
  intro g cap w' hown hgrow hor _;have own:=D7b hrow;refine h g cap w' _ ⟨by simpa [ints] using hown,fun z hz=>?_⟩ hgrow own (hor.imp (own g) id)
  rcases C4c.1 hz with hz | hz
  . exact hrow.2 z hz
  have:z=y:=by simpa using hz
  subst this;exact ⟨hy1,hy2⟩
theorem G3b {w:World} {ops:Array Oper} {rest:List Oper} {o:Oper} {a:Act} {Q:Exit->Act->World->Prop} (hgd:o.guard=none) (s x:Operand)
    (ho:o.op = .call { callee:=.builtin .append,args:=#[s,x],argTypes:=#[22,22] }) {c b n:Nat} {p:Option Addr} {l:List Int} {y:Int} (hn:l.length=n) (hs:a.eval s = .slice p n c) (hx:a.eval x = .slice (some ⟨b,0,none⟩) 1 1)
    (hrow:Row w 0 p c l) (hy:w.cell? ⟨b,0,none⟩=some (.int .i64 y)) (hy1 : -9223372036854775808<=y) (hy2:y<=9223372036854775807) (hlen:n < 10000000)
    (h:∀ g cap w' row,Row w' 0 (some ⟨g,0,none⟩) cap (l ++ [y])->w.grownBy w' row->(∀ r,row=some r->p=some ⟨r,0,none⟩)->(p=some ⟨g,0,none⟩ \/ g=w.heap.size)->wpList prog ops Q rest (a.put o.dst (.slice (some ⟨g,0,none⟩) (n+1) cap)) w'):wpList prog ops Q (o :: rest) a w:=by
  subst hn;exact l9b hgd s x ho hs hx hrow hy hy1 hy2 hlen h
structure SrAt (wb w:World) (p1:Option Addr) (k1:Nat) (p2:Option Addr) (k2:Nat) (t:List Int × List Int):Prop where
 ext0:Ext wb w
 r1:Row w 0 p1 k1 t.1
 r2:Row w 0 p2 k2 t.2
 l1:∀ b o,p1=some ⟨b,o,none⟩->wb.heap.size<=b
 l2:∀ b o,p2=some ⟨b,o,none⟩->wb.heap.size<=b
 n12:∀ b o b' o',p1=some ⟨b,o,none⟩->p2=some ⟨b',o',none⟩->b ≠ b'
structure SrTo (wb w:World) (p1 p2:Option Addr) (w':World) (q1:Option Addr) (k1:Nat) (q2:Option Addr) (k2:Nat) (t:List Int × List Int):Prop extends SrAt wb w' q1 k1 q2 k2 t where
 but:But (blk p1 ++ blk p2) w w'
 o1:∀ b o,q1=some ⟨b,o,none⟩->b ∈ blk p1 \/ w.heap.size<=b
 o2:∀ b o,q2=some ⟨b,o,none⟩->b ∈ blk p2 \/ w.heap.size<=b
namespace SrAt
variable {wb w w':World} {p1 p2:Option Addr} {k1 k2:Nat} {t:List Int × List Int}
theorem ext (h:SrAt wb w p1 k1 p2 k2 t) (k:Ext w w'):SrAt wb w' p1 k1 p2 k2 t:=
 { h with ext0:=h.ext0.trans k,r1:=h.r1.ext k,r2:=h.r2.ext k }
theorem same (h:SrAt wb w p1 k1 p2 k2 t) (k:Ext w w'):SrTo wb w p1 p2 w' p1 k1 p2 k2 t:=
 { h.ext k with but:=But.E7a k,o1:=fun b o e=>.inl (C2a e),o2:=fun b o e=>.inl (C2a e) }
theorem g2b {row:Option Nat} (hG:w.grownBy w' row):But row.toList w w':=⟨hG.os,hG.tape,hG.output,hG.size,fun i hi hn=>hG.block i hi (fun e=>hn (by rw [<- e];simp))⟩
theorem J5b (h:SrAt wb w p1 k1 p2 k2 t) {row:Option Nat} (hR:Row w' 0 (some ⟨g,0,none⟩) cap l) (hG:w.grownBy w' row) (hrow:∀ r,row=some r->p1=some ⟨r,0,none⟩) (hg:p1=some ⟨g,0,none⟩ \/ g=w.heap.size) :
    SrTo wb w p1 p2 w' (some ⟨g,0,none⟩) cap p2 k2 (l,t.2):=by
  have kb:=g2b hG;have hin:∀ x ∈ row.toList,x ∈ blk p1:=fun x hx=>by
   cases row with
   | none=>cases hx
   | some r=>
    simp only [x3b,w8b] at hx;subst hx;exact C2a (hrow _ rfl)
  have hlo:∀ x ∈ row.toList,wb.heap.size<=x:=fun x hx=>by
   cases row with
   | none=>cases hx
   | some r=>
    simp only [x3b,w8b] at hx;subst hx;exact h.l1 _ 0 (hrow _ rfl)
  refine ⟨⟨But.D3a h.ext0 kb hlo,hR,h.r2.but_ kb (fun b o e hx=>?_),fun b o e=>?_,h.l2,fun b o b' o' e e'=>?_⟩, ?_,fun b o e=>?_,fun b o e=>.inl (C2a e)⟩
  . cases row with
    | none=>cases hx
    | some r=>
     simp only [x3b,w8b] at hx;subst hx;exact h.n12 _ 0 _ o (hrow _ rfl) e rfl
  . cases e
    rcases hg with hg | hg
    . exact h.l1 _ _ hg
    have:=h.ext0.le;omega
  . cases e
    rcases hg with hg | hg
    . exact h.n12 _ _ _ _ hg e'
    have:=h.r2.lt e';omega
  . exact But.over (But.refl _ _) kb fun x hx=>.inl (by simp [hin x hx])
  cases e
  rcases hg with hg | hg
  . exact .inl (C2a hg)
  exact .inr (by omega)
theorem M9b (h:SrAt wb w p1 k1 p2 k2 t) {row:Option Nat} (hR:Row w' 0 (some ⟨g,0,none⟩) cap l) (hG:w.grownBy w' row) (hrow:∀ r,row=some r->p2=some ⟨r,0,none⟩) (hg:p2=some ⟨g,0,none⟩ \/ g=w.heap.size) :
    SrTo wb w p1 p2 w' p1 k1 (some ⟨g,0,none⟩) cap (t.1,l):=by
  have kb:=g2b hG;have hin:∀ x ∈ row.toList,x ∈ blk p2:=fun x hx=>by
   cases row with
   | none=>cases hx
   | some r=>
    simp only [x3b,w8b] at hx;subst hx;exact C2a (hrow _ rfl)
  have hlo:∀ x ∈ row.toList,wb.heap.size<=x:=fun x hx=>by
   cases row with
   | none=>cases hx
   | some r=>
    simp only [x3b,w8b] at hx;subst hx;exact h.l2 _ 0 (hrow _ rfl)
  refine ⟨⟨But.D3a h.ext0 kb hlo,h.r1.but_ kb (fun b o e hx=>?_),hR,h.l1,fun b o e=>?_,fun b o b' o' e e'=>?_⟩, ?_,fun b o e=>.inl (C2a e),fun b o e=>?_⟩
  . cases row with
    | none=>cases hx
    | some r=>
     simp only [x3b,w8b] at hx;subst hx;exact h.n12 _ o _ 0 e (hrow _ rfl) rfl
  . cases e
    rcases hg with hg | hg
    . exact h.l2 _ _ hg
    have:=h.ext0.le;omega
  . cases e'
    rcases hg with hg | hg
    . exact h.n12 _ _ _ _ e hg
    have:=h.r1.lt e;omega
  . exact But.over (But.refl _ _) kb fun x hx=>.inl (by simp [hin x hx])
  cases e
  rcases hg with hg | hg
  . exact .inl (C2a hg)
  exact .inr (by omega)
end SrAt
theorem U2a {base x:Nat} (h:Row w base p c l) (hx:x ∈ blk p):p=some ⟨x,0,none⟩:=by
 rcases h.1.2 with ⟨e,_⟩ | ⟨g,cap,cur,e,_⟩
 . injection e with e1
   subst e1
   cases hx
 injection e with e1
 subst e1
 simp only [blk,w8b] at hx
 rw [hx]
namespace SrTo
variable {wb w w1 w2:World} {p1 p2 q1 q2 r1 r2:Option Addr} {k1 k2 j1 j2:Nat} {t u:List Int × List Int}
theorem from_ (h:SrTo wb w1 p1 p2 w2 q1 k1 q2 k2 t) (k:Ext w w1):SrTo wb w p1 p2 w2 q1 k1 q2 k2 t:=
 { h with
   but:=But.over (But.E7a k) h.but (fun x hx=>.inl hx)
   o1:=fun b o e=>(h.o1 b o e).imp id fun e=>G5c k.le e
   o2:=fun b o e=>(h.o2 b o e).imp id fun e=>G5c k.le e }
theorem trans (h:SrTo wb w p1 p2 w1 q1 k1 q2 k2 t) (k:SrTo wb w1 q1 q2 w2 r1 j1 r2 j2 u):SrTo wb w p1 p2 w2 r1 j1 r2 j2 u:=by
 have key1:∀ x,x ∈ blk q1->x ∈ blk p1 \/ w.heap.size<=x:=fun x hx=>h.o1 _ _ (U2a h.r1 hx)
 have key2:∀ x,x ∈ blk q2->x ∈ blk p2 \/ w.heap.size<=x:=fun x hx=>h.o2 _ _ (U2a h.r2 hx)
 refine { k with but:=But.over h.but k.but fun x hx=>?_,o1:=fun b o e=>?_,o2:=fun b o e=>?_ }
 . simp only [C4c] at hx ⊢
   rcases hx with hx | hx
   . exact (key1 x hx).imp .inl id
   exact (key2 x hx).imp .inr id
 . rcases k.o1 b o e with h1 | h1
   . exact key1 b h1
   have:=h.but.size;exact .inr (by omega)
 rcases k.o2 b o e with h1 | h1
 . exact key2 b h1
 have:=h.but.size
 exact .inr (by omega)
end SrTo
def v3a (wb w:World) (p1 p2:Option Addr) (t:List Int × List Int) (e:Ending) (w':World):Prop:=∃ q1 k1 q2 k2,e = .returned (.tuple #[.slice q1 t.1.length k1,.slice q2 t.2.length k2])/\SrTo wb w p1 p2 w' q1 k1 q2 k2 t
theorem search_end {L:DgL} {d:Nd.Dia} (n:Nat) (z1 z2 z3 z4:Nat) (x r:Int) {p1:Option Addr} {k1 k2:Nat} {t:List Int × List Int} (hr:r < 0) (hr2 : -1-r < 1000000) (S:SrAt wb w p1 k1 p2 k2 t) (b2:t.2.length<=1000000) :
    Calls prog 154 #[dgV L z1 z2 z3 z4 x,.int .i64 r,.slice p1 t.1.length k1,.slice p2 t.2.length k2] w (v3a wb w p1 p2 (d.srch (n+1) r t)):=by
  have HS:=hZ S;unfold dgV DgL.cells;rw [Nd.Dia.srch,H5c hr];have tk:decide (r < 0)=true:=E5c hr;have s1:IntKind.i64.wrap (-1-r) = -1-r:=E4c _ (by omega);have y1:(-9223372036854775808:Int) <= -1-r:=by omega
  have y2 : -1-r<=(9223372036854775807:Int):=by omega
  clear hr;clear S
  by_cases hm : -1-r ∈ t.2
  . rw [H5c hm];have HA:=hZ (fun W (hE:Ext w W)=>(by have:=dHas ((HS.out.ext hE).r2.at_) (-1-r);rw [E5c hm] at this;exact this:Calls prog 178 #[.slice p2 t.2.length k2,.int .i64 (-1-r)] W fun e w'=>e = .returned (.bool true)/\Ext W w'));clear hm;generalize ha1:t.1.length=a1 at *;generalize ha2:t.2.length=a2 at *;have HA1:=hZ ha1;have HA2:=hZ ha2;clear ha1 ha2;go_enter func154,ntmps154
    go_wp2_with (go_at_call 178;refine m4_ (HA.out _ (exx)) fun w1 hb1 hc1 hf1 hs1=>?_)
    go_returns;refine ⟨p1,k1,p2,k2, ?_,HS.out.same ((Ext.alloc (Ext.refl _) _).trans hb1)⟩;rw [HA1.out,HA2.out];rfl
  rw [H4c hm];have HA:=hZ (fun W (hE:Ext w W)=>(by have:=dHas ((HS.out.ext hE).r2.at_) (-1-r);rw [D7c hm] at this;exact this:Calls prog 178 #[.slice p2 t.2.length k2,.int .i64 (-1-r)] W fun e w'=>e = .returned (.bool false)/\Ext W w'));clear hm;generalize ha1:t.1.length=a1 at *;generalize ha2:t.2.length=a2 at *;have HA1:=hZ ha1;have HA2:=hZ ha2;clear ha1 ha2;go_enter func154,ntmps154
  go_wp2_with (first
   | (go_at_call 178;refine m4_ (HA.out _ (exx)) fun w1 hb1 hc1 hf1 hs1=>?_)
   | (at_builtin;refine G3b rfl _ _ rfl (n:=a2) HA2.out rfl rfl (HS.out.ext (show Ext w _ from exx)).r2 (by go_simp) y1 y2 (by omega) ?_;intro g2 c2 w2 row2 hR2 hG2 hr2 hg2;have N2:=hZ (((HS.out.ext (show Ext w _ from exx)).M9b hR2 hG2 hr2 hg2).from_ (show Ext w _ from exx));clear hR2 hG2 hr2 hg2))
  go_returns;refine ⟨p1,k1,_,_, ?_,N2.out⟩;simp only [w2b,A5c,C8c];rw [HA1.out,HA2.out];rfl
theorem u1a {L:DgL} {d:Nd.Dia} (n:Nat) (z1 z2 z3 z4:Nat) (x r:Int) {p1:Option Addr} {k1 k2:Nat} {t:List Int × List Int} (hr:¬ r < 0) (hm:r ∈ t.1) (S:SrAt wb w p1 k1 p2 k2 t) :
    Calls prog 154 #[dgV L z1 z2 z3 z4 x,.int .i64 r,.slice p1 t.1.length k1,.slice p2 t.2.length k2] w (v3a wb w p1 p2 (d.srch (n+1) r t)):=by
  have HS:=hZ S;unfold dgV DgL.cells;rw [Nd.Dia.srch,H4c hr,H5c hm];have tk:decide (r < 0)=false:=D7c hr;clear hr;clear S;have HA:=hZ (fun W (hE:Ext w W)=>(by have:=dHas ((HS.out.ext hE).r1.at_) r;rw [E5c hm] at this;exact this:Calls prog 178 #[.slice p1 t.1.length k1,.int .i64 r] W fun e w'=>e = .returned (.bool true)/\Ext W w'));clear hm;generalize ha1:t.1.length=a1 at *;generalize ha2:t.2.length=a2 at *;have HA1:=hZ ha1;have HA2:=hZ ha2;clear ha1 ha2;go_enter func154,ntmps154
  go_wp2_with (go_at_call 178;refine m4_ (HA.out _ (exx)) fun w1 hb1 hc1 hf1 hs1=>?_)
  go_returns;refine ⟨p1,k1,p2,k2, ?_,HS.out.same ((Ext.alloc (Ext.refl _) _).trans hb1)⟩;rw [HA1.out,HA2.out];rfl
open Go.RowKit Go.Maps
theorem Q2b {α β:Type} {g:β->α->β} {l:List α} {x:α} (h:l[j]? = some x) (t:β):(l.take (j+1)).foldl g t=g ((l.take j).foldl g t) x:=by
 rw [<- Nd.take_snoc h,z0b]
 rfl
theorem B6b {L:DgL} {d:Nd.Dia} (h:DgRd wb L d.sizes d.order d.ends d.nodes) (hI:DgIn d) (hL:d.Low) (hi:i < n+1) (hn:n+1<=d.nodes.length) {p1:Option Addr} {k1 k2:Nat} {t:List Int × List Int} (hm:¬ (i:Int) ∈ t.1) (S:SrAt wb w p1 k1 p2 k2 t) (hB:Nd.Bnd d t)
    (IH:∀ (r:Int) (w:World) (p1 p2:Option Addr) (k1 k2:Nat) (t:List Int × List Int),d.Ref r n->SrAt wb w p1 k1 p2 k2 t->Nd.Bnd d t ->
     Calls prog 154 #[dgV L d.sizes.length d.order.length d.ends.length d.nodes.length d.root,.int .i64 r,.slice p1 t.1.length k1,.slice p2 t.2.length k2] w (v3a wb w p1 p2 (d.srch (n+1) r t))) :
    Calls prog 154 #[dgV L d.sizes.length d.order.length d.ends.length d.nodes.length d.root,.int .i64 (i:Int),.slice p1 t.1.length k1,.slice p2 t.2.length k2] w (v3a wb w p1 p2 (d.srch (n+1+1) i t)):=by
  obtain ⟨zl,el,nl,hf,hkr,hroot⟩:=hI;have hil:i < d.nodes.length:=by omega
  have hr:¬ (i:Int) < 0:=by omega
  have hlen:=hB.len;have H:=hZ (h.ext S.ext0);have HS:=hZ S;have HB:=hZ hB;have l1:=h.s.le;have l2:=h.o.le;have l3:=h.e.le;have l4:=h.n.le;rw [C6c] at l3;rw [A7a h.kl] at l4;have HKL:=hZ h.kl;have HK:=hZ (fun k hk=>hL i hil k hk);have HLOW:=hZ hL;have HKS:=hZ h;rw [Nd.Dia.srch,H4c hr,H4c hm];obtain ⟨q,hq⟩:=A5a (E:=d.nodes) (j:=i) hil;obtain ⟨⟨kp,kc⟩,hk⟩:=A5a (E:=L.K) (j:=i) (by rw [h.kl];exact hil);obtain ⟨nb,no,hpn,hnb,hc⟩:=H.out.node_cells (by omega);obtain ⟨g1,g2⟩:=hc i q _ hq hk;have SK:=hZ (h.ks i q _ hq hk);have hqa:d.nodeAt i=q:=by unfold Nd.Dia.nodeAt;rw [hq];rfl
  have HKR:=hZ (hkr q (u1b hq));simp only [z5b];rw [hqa] at HK ⊢;obtain ⟨vv,ks⟩:=q;simp only at g1 g2 SK HKR HK ⊢;have HBU:=hZ (fun j=>(Nd.r5a (d:=d) (j:=(i:Int)) (g:=fun t k=>d.srch (n+1) k t) (ks.take j) t (fun k hk=>by
   have hk':=HK.out k (u4b hk);exact ⟨hk'.1,fun t ht=>Nd.p8a hL n k t ⟨by have:=hk'.1;omega,hk'.2⟩ (by omega) ht⟩) HB.out).1)
  have HA:=hZ (fun W (hE:Ext w W)=>(by have:=dHas ((HS.out.ext hE).r1.at_) (i:Int);rw [D7c hm] at this;exact this:Calls prog 178 #[.slice p1 t.1.length k1,.int .i64 (i:Int)] W fun e w'=>e = .returned (.bool false)/\Ext W w'));have HIH:=hZ IH;have tk:decide ((i:Int) < 0)=false:=D7c hr;have kl:=SK.out.le;have kcap:=SK.out.cap;unfold dgV DgL.cells at HIH ⊢;rw [hpn] at HIH ⊢;clear h hB S hL hf hkr hroot hm hc hk hq hqa IH hpn hr;generalize ha1:t.1.length=a1 at *;generalize ha2:t.2.length=a2 at *;have HA1:=hZ ha1;have HA2:=hZ ha2;generalize h1:d.sizes.length=n1 at *;generalize h2:d.order.length=n2 at *;generalize h3:d.ends.length=n3 at *;generalize h4:d.nodes.length=n4 at *;generalize d.root=rt at *;have H3:=hZ h3;have H4:=hZ h4;clear ha1 ha2 h1 h2 h3 h4;have mixed:prog.follows .mixedOrders=true:=by kernel_rfl
  go_enter func154,ntmps154
  go_wp2_with (go_at_call 178;refine m4_ (HA.out _ (exx)) fun w1 hb1 hc1 hf1 hs1=>?_)
  have GB:=hZ (show w.heap.size < w1.heap.size from by have:=hb1.le;simp at this;omega);refine B0a (F:=fun W=>Hid (Ext w W)/\Own5 W w.heap.size (.slice L.ps n1 L.cs) (.slice L.po n2 L.co) (.slice L.pe n3 L.ce) (.slice (some ⟨nb,no,none⟩) n4 L.cn) (.int .i64 rt)/\W.cell? ⟨w1.heap.size,1,none⟩=some (.slice kp ks.length kc)) ⟨hZ (exx),Own5.ext (Own5.ext ⟨by go_simp,by go_simp,by go_simp,by go_simp,by go_simp,fun o=>by go_simp⟩ hb1) (Ext.alloc (Ext.refl _) _),by go_simp⟩ ?_;intro w2 ⟨E2,O2',c1⟩;have O2:=hZ O2';have T0:=hZ ((HS.out.ext E2.out).same (Ext.refl w2));have zg:=cell_lt O2'.a0;have zb:=cell_lt c1;have FG:Hid (∀ b,b=w.heap.size \/ b=w1.heap.size->b ∉ blk p1 ++ blk p2):=hZ fun b hb hm=>by
   have:b < w.heap.size:=by
    rcases C4c.1 hm with hm | hm
    . exact HS.out.r1.lt (U2a HS.out.r1 hm)
    exact HS.out.r2.lt (U2a HS.out.r2 hm)
   have:=GB.out;omega
  clear hb1 O2' g1 g2;generalize w1.heap.size=bb at c1 zb FG ⊢;generalize w.heap.size=g at O2 zg FG ⊢
  go_wp2_with fail
  go_loopg [2,3,11] ks.length (fun gg v2 v3 iv wr=>∃ (j:Nat) (r1 r2:Option Addr) (c1' c2':Nat) (u:List Int × List Int),j<=ks.length/\ks.length-j<=gg/\v2 = .slice r1 u.1.length c1'/\v3 = .slice r2 u.2.length c2'/\iv = .int .i64 j/\Hid (SrTo wb w2 p1 p2 wr r1 c1' r2 c2' u)/\Aside (u=(ks.take j).foldl (fun t k=>d.srch (n+1) k t) t))
  case atStart=>exact ⟨0,p1,p2,k1,k2,t,by omega,by omega,by rw [HA1.out],by rw [HA2.out],rfl,T0,(show Aside _ from rfl)⟩
  case round=>
   obtain ⟨j,r1,r2,c1',c2',u,hj,hg,rfl,rfl,rfl,TJ,HU⟩:=hrel;have HU:=hZ HU.out;have HUB:=hZ (show Nd.Bnd d u from HU.out ▸ HBU.out j);have hul:=HUB.out.len;rw [H3.out,H4.out] at hul;have OJ:=hZ (O2.out.but TJ.out.but (FG.out g (.inl rfl)));have c1w:=(TJ.out.but.cell zb (FG.out bb (.inr rfl)) 1).trans c1;have zs:=TJ.out.but.size;have FR:Hid (∀ b,b=g \/ b=bb->b ∉ blk r1 ++ blk r2):=hZ fun b hb hm=>by
    have hlt:b < w2.heap.size:=by
     rcases hb with rfl | rfl
     . exact zg
     exact zb
    rcases C4c.1 hm with hm | hm
    . rcases TJ.out.o1 _ _ (U2a TJ.out.r1 hm) with h | h
      . exact FG.out b hb (by simp [h])
      omega
    rcases TJ.out.o2 _ _ (U2a TJ.out.r2 hm) with h | h
    . exact FG.out b hb (by simp [h])
    omega
   by_cases hlt:j < ks.length
   . have tk1:decide ((j:Int) < (ks.length:Int))=true:=dT;obtain ⟨y,hy⟩:=A4a (l:=ks) (j:=j) hlt;have HKY:=hZ (HK.out y (u1b hy));obtain ⟨kb,ko,rfl,hkb,hck⟩:=SK.out.cells (by omega);have gkb:=hck j y hy;have gk:=TJ.out.ext0.q gkb;have zk:=cell_lt gk;have HY:=hZ hy;have CALL:=hZ (HIH.out y);obtain ⟨a0,a1',a2',a3,a4,az⟩:=id OJ.out;have kbn:Hid (kb ∉ blk r1 ++ blk r2):=hZ fun hm=>by
      rcases C4c.1 hm with hm | hm
      . have:=TJ.out.l1 _ _ (U2a TJ.out.r1 hm);omega
      have:=TJ.out.l2 _ _ (U2a TJ.out.r2 hm);omega
     clear hck hy gkb
     go_wp2_with fail
     refine D4a (S:=fun W=>Own5 W g (.slice L.ps n1 L.cs) (.slice L.po n2 L.co) (.slice L.pe n3 L.ce) (.slice (some ⟨nb,no,none⟩) n4 L.cn) (.int .i64 rt)/\W.cell? ⟨bb,1,none⟩=some (.slice (some ⟨kb,ko,none⟩) ks.length kc)/\W.cell? ⟨kb,ko+j,none⟩=some (.int .i64 y)) (R:=Eq) (by kernel_rfl) (fun _=>rfl) ?_ ?_
     . exact ⟨OJ.out.ext exx,by go_simp,by go_simp⟩
     refine' tkr 0 ?_ (hy:=by intro w hSw;(obtain ⟨⟨s0,s1,s2,s3,s4,_⟩,s5,s6⟩:=hSw);go_simp;try with_reducible rfl);refine' tkr 1 ?_ (hy:=by intro w hSw;(obtain ⟨⟨s0,s1,s2,s3,s4,_⟩,s5,s6⟩:=hSw);go_simp;try with_reducible rfl);refine' tkr 2 ?_ (hy:=by intro w hSw;(obtain ⟨⟨s0,s1,s2,s3,s4,_⟩,s5,s6⟩:=hSw);go_simp;try with_reducible rfl);refine' tkr 3 ?_ (hy:=by intro w hSw;(obtain ⟨⟨s0,s1,s2,s3,s4,_⟩,s5,s6⟩:=hSw);go_simp;try with_reducible rfl);refine' tkr 4 ?_ (hy:=by intro w hSw;(obtain ⟨⟨s0,s1,s2,s3,s4,_⟩,s5,s6⟩:=hSw);go_simp;try with_reducible rfl);refine' tkr 5 ?_ (hy:=by intro w hSw;(obtain ⟨⟨s0,s1,s2,s3,s4,_⟩,s5,s6⟩:=hSw);go_simp;try with_reducible rfl);refine' tkr 6 ?_ (hy:=by intro w hSw;(obtain ⟨⟨s0,s1,s2,s3,s4,_⟩,s5,s6⟩:=hSw);go_simp;try with_reducible rfl);refine' tkr 7 ?_ (hy:=by intro w hSw;(obtain ⟨⟨s0,s1,s2,s3,s4,_⟩,s5,s6⟩:=hSw);go_simp;try with_reducible rfl);refine H5a 8 (f:=154) (args:=#[.agg #[.slice L.ps n1 L.cs,.slice L.po n2 L.co,.slice L.pe n3 L.ce,.slice (some ⟨nb,no,none⟩) n4 L.cn,.int .i64 rt],.int .i64 y,.slice r1 u.1.length c1',.slice r2 u.2.length c2']) rfl (by kernel_rfl) (by rfl) ?run8 ?call8
     case run8=>go_simp
     refine (CALL.out wr.drew r1 r2 c1' c2' u ⟨by have:=HKY.out.1;omega,by have:=HKY.out.2;rw [H3.out] at *;omega⟩ (TJ.out.toSrAt.ext exx) HUB.out).mono ?_;rintro e w4 ⟨s1,m1,s2,m2,rfl,T4'⟩;have T4:=hZ T4';have OD:Own5 wr.drew g (.slice L.ps n1 L.cs) (.slice L.po n2 L.co) (.slice L.pe n3 L.ce) (.slice (some ⟨nb,no,none⟩) n4 L.cn) (.int .i64 rt):=OJ.out.ext exx;have O4:=hZ (OD.but T4'.but (FR.out g (.inl rfl)));have cd:wr.drew.cell? ⟨bb,1,none⟩=some (.slice (some ⟨kb,ko,none⟩) ks.length kc):=by go_simp
     have kd:wr.drew.cell? ⟨kb,ko+j,none⟩=some (.int .i64 y):=by go_simp
     have c14:=(T4'.but.cell (cell_lt cd) (FR.out bb (.inr rfl)) 1).trans cd;have gk4:=(T4'.but.cell (cell_lt kd) kbn.out (ko+j)).trans kd;refine ⟨_,rfl,⟨O4.out,c14,gk4⟩, ?_⟩;have T5:=hZ (TJ.out.trans (T4'.from_ (show Ext wr wr.drew from exx)));clear T4' cd kd OD OJ a0 a1' a2' a3 a4 az c1w gk zk TJ CALL;refine layy ?_;refine' tkr 9 ?_;refine' tkr 10 ?_;refine' tkr 11 ?_;refine' tkr 12 ?_;refine' tkr 13 ?_;refine A0a (by kernel_rfl) ?_ _;intro w5 e5 _;subst e5
     go_wp2_with fail
     go_roundg (ks.length-(j+1))
     case measure=>omega
     case rel=>exact ⟨j+1,s1,s2,m1,m2,_,by omega,by omega,rfl,rfl,by go_num,T5,(show Aside _ from by rw [Q2b (show ks[j]? = some y from HY.out),<- HU.out];exact rfl)⟩
   have hjn:j=ks.length:=by omega
   have tk1:decide ((j:Int) < (ks.length:Int))=false:=dF;have HUE:=hZ (show u=ks.foldl (fun t k=>d.srch (n+1) k t) t by rw [HU.out,s6b (by omega)]);have y1:(-9223372036854775808:Int)<=(i:Int):=by omega
   have y2:(i:Int)<=(9223372036854775807:Int):=by omega
   have bu:u.1.length < 10000000:=by omega
   clear hjn HU
   go_wp2_with (at_builtin;refine G3b rfl _ _ rfl (n:=u.1.length) rfl rfl rfl (TJ.out.toSrAt.ext (show Ext wr _ from exx)).r1 (by go_simp) y1 y2 bu ?_;intro g6 c6 w6 row6 hR6 hG6 hr6 hg6;have N6:=hZ (TJ.out.trans (((TJ.out.toSrAt.ext (show Ext wr _ from exx)).J5b hR6 hG6 hr6 hg6).from_ (show Ext wr _ from exx)));clear hR6 hG6 hr6 hg6)
   go_returns
   refine ⟨_,_,_,_, ?_,(by
    have:=N6.out.from_ E2.out;rw [HUE.out] at this;exact this)⟩
   rw [HUE.out];simp only [w2b,A5c,C8c];rfl
theorem o8a {wb : World} {L : DgL} {d : Nd.Dia} (h : DgRd wb L d.sizes d.order d.ends d.nodes) (hI : DgIn d) (hL : d.Low) : ∀ (n : Nat), n ≤ d.nodes.length → ∀ (r : Int) (w : World) (p1 p2 : Option Addr) (k1 k2 : Nat) (t : List Int × List Int), d.Ref r n → SrAt wb w p1 k1 p2 k2 t → Nd.Bnd d t →
      Calls prog 154 #[dgV L d.sizes.length d.order.length d.ends.length d.nodes.length d.root,.int .i64 r,.slice p1 t.1.length k1,.slice p2 t.2.length k2] w (v3a wb w p1 p2 (d.srch (n+1) r t))
  | n,hn,r,w,p1,p2,k1,k2,t,hR,S,hB=>by
   have hl:=hB.len;have e1:=hI.el
   by_cases hr:r < 0
   . exact search_end n _ _ _ _ _ r hr (by have:=hR.2;omega) S (by omega)
   by_cases hm:r ∈ t.1
   . exact u1a n _ _ _ _ _ r hr hm S
   obtain ⟨i,rfl⟩:∃ i:Nat,r=(i:Int):=⟨r.toNat,by omega⟩
   have hin:=hR.1;obtain ⟨n',rfl⟩:∃ n',n=n'+1:=⟨n-1,by omega⟩
   exact B6b h hI hL (by omega) hn hm S hB (fun r w p1 p2 k1 k2 t hR S hB=>o8a h hI hL n' (by omega) r w p1 p2 k1 k2 t hR S hB)
end Go.Proofs.YtdokmmhjmclmnaaGreat
