/- Part 29 of a proof. -/
import Derived.Test.YtdokmmhjmclmnaaGreatMU28
set_option linter.unusedSimpArgs false
set_option linter.unusedVariables false
set_option linter.unusedSectionVars false
set_option linter.unnecessarySimpa false
set_option maxHeartbeats 16000000
set_option maxRecDepth 100000
namespace Go.Proofs.YtdokmmhjmclmnaaGreat
open Go.Proofs.Tryz
variable {W' w w' w0 wb:World} {B a b bx c ca cap ce cn f g i j k lb m n qc:Nat} {choice e t x:Int} {A W fs ks l o z:List Int} {D T Y:List Nat} {p p2 pa pe pn q:Option Addr} {d:Hd} {S S':Hp.Hs} {r:Rd} {L:List Hp.Tl} {M:List (Nat × Int)} {s:Hp.Sc}
open Go.RowKit Go.Maps
theorem H3b {α:Type} {l:List α} (h:∀ (i k:Nat) (x y:α),k < i->l[i]? = some x->l[k]? = some y->y ≠ x):l.Nodup:=by
 rw [q3b,q9b]
 intro k i hk hi hki
 exact h i k l[i] l[k] hki (r1b hi) (r1b hk)
theorem v0a {α:Type} {l:List α} {x:α} (hki:k < i) (hi:l[i]? = some x) (hk:l[k]? = some x):¬ l.Nodup:=fun h=>by
 have:=Nd.i5a h hi hk
 omega
theorem g9a (h:SliceAt w p c l) (k:Nat) {b:Bool} (hb:decide (l=Nd.upto k)=b):Calls prog 155 #[.slice p l.length c,.int .i64 k] w (Rt w (.bool b)):=hb ▸ p3b h k
theorem SrAt.start (w:World):SrAt w w none 0 none 0 ([],[]):=
 ⟨Ext.refl w,⟨A0c w _ _ _,by simp⟩,⟨A0c w _ _ _,by simp⟩,by simp,by simp,by simp⟩
theorem L6b {L:DgL} {d:Nd.Dia} {b:Bool} (h:DgRd w L d.sizes d.order d.ends d.nodes) (hI:DgIn d) (hL:d.Low) (hroot:d.Ref d.root d.nodes.length) (hb:b=true ↔ d.Is) :
    Calls prog 99 #[dgV L d.sizes.length d.order.length d.ends.length d.nodes.length d.root] w (Rt w (.bool b)):=by
  have el:=hI.el;have nl:=hI.nl;have H:=hZ h;have l1:=h.s.le;have l2:=h.o.le;have l3:=h.e.le;have l4:=h.n.le;rw [C6c] at l3;rw [A7a h.kl] at l4;have HB:=hZ hb;have SE:=hZ (fun W (hE:Ext w W)=>o8a (h.ext hE) hI hL d.nodes.length (H0c _) d.root W none none 0 0 ([],[]) hroot (SrAt.start W) (Nd.Bnd.start d));have BL:=hZ (Nd.p8a hL d.nodes.length d.root ([],[]) hroot (H0c _) (Nd.Bnd.start d)).1.len;unfold dgV DgL.cells at SE ⊢;clear h hb hI hL hroot;generalize h1:d.sizes.length=n1 at *;generalize h2:d.order.length=n2 at *;generalize h3:d.ends.length=n3 at *;generalize h4:d.nodes.length=n4 at *;generalize hr:d.root=rt at *;have H3:=hZ h3;have H4:=hZ h4;have HR:=hZ hr;clear h1 h2 h3 h4 hr;have mixed:prog.follows .mixedOrders=true:=by kernel_rfl
  go_enter func99,ntmps99
  go_wp2_with fail
  refine B0a (F:=fun W=>Hid (Ext w W)/\Own5 W w.heap.size (.slice L.ps n1 L.cs) (.slice L.po n2 L.co) (.slice L.pe n3 L.ce) (.slice L.pn n4 L.cn) (.int .i64 rt)) ⟨hZ (exx),by go_simp,by go_simp,by go_simp,by go_simp,by go_simp,fun o=>by go_simp⟩ ?_;intro w0 ⟨E0,O0⟩;generalize w.heap.size=g at O0 ⊢;have H0:=hZ (H.out.ext E0.out);have O0:=hZ O0
  go_loopg [3] n3 (fun gg i wr=>∃ j:Nat,j<=n3/\n3-j<=gg/\i = .int .i64 j/\Aside (Ext w0 wr)/\Aside (∀ (a c:Nat) (x y:Int × Int),a < j->c < a->d.ends[a]? = some x->d.ends[c]? = some y->y ≠ x))
  case atStart=>exact ⟨0,by omega,by omega,rfl,(show Aside _ from Ext.refl _),(show Aside _ from fun a c x y ha=>absurd ha (D0c _))⟩
  case round=>
   obtain ⟨j,hj,hg,rfl,HE,HA⟩:=hrel;obtain ⟨a0,a1,a2,a3,a4,az⟩:=id (O0.out.ext HE.out)
   by_cases hlt:j < n3
   . have tk:decide ((j:Int) < (n3:Int))=true:=dT;obtain ⟨v,hv⟩:=A5a (E:=d.ends) (j:=j) (by rw [H3.out];exact hlt);have HV:=hZ hv;clear hv
     go_wp2_with fail
     go_loopg [4] (j+1) (fun gg i wr2=>∃ k:Nat,k<=j/\j+1-k<=gg/\i = .int .i64 k/\Aside (Ext w0 wr2)/\Aside (∀ (c:Nat) (y:Int × Int),c < k->d.ends[c]? = some y->y ≠ v))
     case atStart=>exact ⟨0,by omega,by omega,rfl,(show Aside _ from HE.out),(show Aside _ from fun c y hc=>absurd hc (D0c _))⟩
     case round=>
      obtain ⟨k,hk,hg2,rfl,HE2,HA2⟩:=hrel;clear a0 a1 a2 a3 a4 az;obtain ⟨a0,a1,a2,a3,a4,az⟩:=id (O0.out.ext HE2.out)
      by_cases hkj:k < j
      . have tk2:decide ((k:Int) < (j:Int))=true:=dT;obtain ⟨y,hy⟩:=A5a (E:=d.ends) (j:=k) (by rw [H3.out];omega);have HY:=hZ hy;obtain ⟨bb,o,hpe,hbb,hc⟩:=(H0.out.ext HE2.out).e.L0a (by rw [H3.out];omega);obtain ⟨g1,g2⟩:=hc j v HV.out;obtain ⟨g3,g4⟩:=hc k y hy;rw [hpe] at a2;have EQ:=fun u=>g6b y.1 y.2 v.1 v.2 u
        have kn:k < n3:=by omega
        clear hc hy hpe
        by_cases he:y=v
        . have hbf:b=false:=by
            cases b with
            | false=>rfl
            | true=>exact absurd (HB.out.1 rfl).ends (v0a hkj HV.out (he ▸ HY.out))
          subst hbf;simp only [he,decide_true] at EQ;subst he
          go_wp2_with fail
          go_region_o
          go_wp2;go_returns;exact ⟨rfl,E0.out.trans HE2.out.drew⟩
        have ne:¬ (y.1,y.2)=(v.1,v.2):=fun e=>he (by have:=Prod.mk.inj e;exact Prod.ext this.1 this.2)
        simp only [D7c ne] at EQ;have HNE:=hZ he;clear he ne
        go_wp2_with fail
        go_region_o
        go_wp2
        go_roundg (j+1-(k+1))
        case measure=>omega
        case rel=>
         refine ⟨k+1,by omega,by omega,by go_num,(show Aside _ from HE2.out.drew),(show Aside _ from fun c x hc hx=>?_)⟩
         by_cases e:c=k
         . subst e;rw [HY.out] at hx
           cases hx
           exact HNE.out
         exact HA2.out c x (by omega) hx
      have tk2:decide ((k:Int) < (j:Int))=false:=dF;have hkj2:k=j:=by omega
      go_wp2_with fail
      go_roundg (n3-(j+1))
      case measure=>omega
      case rel=>
       refine ⟨j+1,by omega,by omega,by go_num,(show Aside _ from HE2.out),(show Aside _ from fun a c x y ha hc hx hy=>?_)⟩
       by_cases e:a=j
       . subst e;rw [HV.out] at hx
         cases hx
         exact HA2.out c y (by omega) hy
       exact HA.out a c x y (by omega) hc hx hy
   have tk:decide ((j:Int) < (n3:Int))=false:=dF
   have ND:=hZ (H3b fun a c x y hca hx hy=>HA.out a c x y (by
    have:=(q5b.1 hx).1;rw [H3.out] at this;omega) hca hx hy)
   clear HA
   go_wp2_with fail
   go_loopg [5] n4 (fun gg i wr2=>∃ j:Nat,j<=n4/\n4-j<=gg/\i = .int .i64 j/\Aside (Ext w0 wr2)/\Aside (∀ (a c:Nat) (x y:Int × List Int),a < j->c < a->d.nodes[a]? = some x->d.nodes[c]? = some y->y ≠ x)/\Aside (∀ (a:Nat) (x:Int × List Int),a < j->d.nodes[a]? = some x->Nd.flat x.2=false))
   case atStart=>exact ⟨0,by omega,by omega,rfl,(show Aside _ from HE.out),(show Aside _ from fun a c x y ha=>absurd ha (D0c _)),(show Aside _ from fun a x ha=>absurd ha (D0c _))⟩
   case round=>
    obtain ⟨i,hi,hg,rfl,HE2,HA,HF⟩:=hrel;clear HE a0 a1 a2 a3 a4 az tk;obtain ⟨a0,a1,a2,a3,a4,az⟩:=id (O0.out.ext HE2.out)
    by_cases hlt2:i < n4
    . have tk:decide ((i:Int) < (n4:Int))=true:=dT;obtain ⟨q,hq⟩:=A5a (E:=d.nodes) (j:=i) (by rw [H4.out];exact hlt2);obtain ⟨⟨kp,kc⟩,hk⟩:=A5a (E:=L.K) (j:=i) (by rw [H.out.kl,H4.out];exact hlt2);have HW:=hZ (H0.out.ext HE2.out);obtain ⟨b0,o,hpn,hb0,hc⟩:=HW.out.node_cells (by rw [H4.out];omega);obtain ⟨g1,g2⟩:=hc i q _ hq hk;simp only at g2;rw [hpn] at a3;have SK:=hZ (H.out.ks i q _ hq hk);have HQ:=hZ hq;have HKK:=hZ hk
      cases hfl:Nd.flat q.2 with
      | true=>
       have hbf:b=false:=by
        cases b with
        | false=>rfl
        | true=>
         have:=(HB.out.1 rfl).flat q (u1b hq);rw [hfl] at this
         cases this
       subst hbf;have FL:=hZ (fun W (hE:Ext w W)=>Z9b (v:=q.1) (SK.out.ext hE) (show Hp.Hs.alike q.2=true from hfl));simp only at FL;have EX:=hZ (E0.out.trans HE2.out);clear hc hq hk hpn hfl
       go_wp2_with (go_at_call 136;refine m4_ (FL.out _ (EX.out)) fun w1 hb1 hc1 hf1 hs1=>?_)
       go_returns;exact ⟨rfl,EX.out.trans hb1⟩
      | false=>
       have FL:=hZ (fun W (hE:Ext w W)=>Z9b (v:=q.1) (SK.out.ext hE) (show Hp.Hs.alike q.2=false from hfl));simp only at FL;have EX:=hZ (E0.out.trans HE2.out);have HFL:=hZ hfl;clear hc hq hk hpn hfl
       go_wp2_with (go_at_call 136;refine m4_ (FL.out _ (EX.out)) fun w1 hb1 hc1 hf1 hs1=>?_)
       have HE3:=hZ (HE2.out.trans hb1);clear hb1
       go_loopg [6] (i+1) (fun gg iv wr3=>∃ k:Nat,k<=i/\i+1-k<=gg/\iv = .int .i64 k/\Aside (Ext w0 wr3)/\Aside (∀ (c:Nat) (y:Int × List Int),c < k->d.nodes[c]? = some y->y ≠ q))
       case atStart=>exact ⟨0,by omega,by omega,rfl,(show Aside _ from HE3.out),(show Aside _ from fun c y hc=>absurd hc (D0c _))⟩
       case round=>
        obtain ⟨k,hk,hg2,rfl,HE4,HA2⟩:=hrel;clear a0 a1 a2 a3 a4 az g1 g2;obtain ⟨a0,a1,a2,a3,a4,az⟩:=id (O0.out.ext HE4.out)
        by_cases hkj:k < i
        . have tk2:decide ((k:Int) < (i:Int))=true:=dT;obtain ⟨q',hq'⟩:=A5a (E:=d.nodes) (j:=k) (by rw [H4.out];omega);obtain ⟨⟨kp',kc'⟩,hk'⟩:=A5a (E:=L.K) (j:=k) (by rw [H.out.kl,H4.out];omega);have HW4:=hZ (H0.out.ext HE4.out);obtain ⟨b4,o4,hpn,hb4,hc⟩:=HW4.out.node_cells (by rw [H4.out];omega);obtain ⟨g1,g2⟩:=hc i q _ HQ.out HKK.out;obtain ⟨k1,k2⟩:=hc k q' _ hq' hk';simp only at g2 k2;rw [hpn] at a3;have SK':=hZ (H.out.ks k q' _ hq' hk');have HQ':=hZ hq';have zg:=cell_lt a3;have kn:k < n4:=by omega
          obtain ⟨bs,hbs⟩:∃ bs,decide (q'.2=q.2)=bs:=⟨_,rfl⟩
          have SM:=hZ (fun W (hE:Ext w W)=>I6a hbs (SK'.out.ext hE) (SK.out.ext hE));simp only at SM;have HBS:=hZ hbs;have EX4:=hZ (E0.out.trans HE4.out);clear hc hq' hk' hpn hbs
          by_cases he:q'.1=q.1
          . have t0:(q'.1 == q.1)=true:=by simpa using he
            have HE0:=hZ he;clear he
            go_wp2_with fail
            have pr43a:=Ext.r a3;have pr43b:=Ext.r g1;have pr43c:=Ext.r g2;have pr43d:=Ext.r k1;have pr43e:=Ext.r k2
            refine rg0 wr ?_
            refine' tkd 0 ?_;refine' tkd 2 ?_;refine' tkd 4 ?_;refine' tkd 6 ?_;refine' tkd 8 ?_;refine' tkd 10 ?_;refine' tkd 12 ?_;refine' tkd 14 ?_;refine' tkd 16 ?_;refine' tkd 18 ?_;refine' tkd 20 ?_;refine' tkd 22 ?_;refine' tkd 24 ?_;refine' tkR 26 (v:=.bool bs) rfl (Or.inr ⟨by rfl,24,_, ?hx26_1297, ?hy26_1297⟩) ?rest26_1297
            case hx26_1297=>(intro w hSw;go_simp;try with_reducible rfl)
            case hy26_1297=>exact fun w hE=>(SM.out _ (EX4.out.trans hE)).mono (fun _ _ h=>⟨h.1,h.2,Ext.trans hE h.2⟩)
            refine layy ?_;refine' tkL 27 ?_;refine A0a (by kernel_rfl) ?_ _;intro x1 _ Ex1;clear pr43a pr43b pr43c pr43d pr43e
            cases bs with
            | true=>
             have hqq:q'=q:=Prod.ext HE0.out (A2c HBS.out);have hbf:b=false:=by
              cases b with
              | false=>rfl
              | true=>exact absurd (HB.out.1 rfl).nodes (v0a hkj HQ.out (hqq ▸ HQ'.out))
             subst hbf;clear hqq
             go_wp2_with fail
             go_returns;exact ⟨rfl,EX4.out.trans Ex1⟩
            | false=>
             go_wp2_with fail
             go_roundg (i+1-(k+1))
             case measure=>omega
             case rel=>
              refine ⟨k+1,by omega,by omega,by go_num,(show Aside _ from HE4.out.trans Ex1),(show Aside _ from fun c x hc hx=>?_)⟩
              by_cases e:c=k
              . subst e;rw [HQ'.out] at hx
                cases hx
                intro e;exact (of_decide_eq_false HBS.out) (by rw [e])
              exact HA2.out c x (by omega) hx
          have t0:(q'.1 == q.1)=false:=by simpa using he
          have HE0:=hZ he;clear he
          go_wp2_with fail
          have pr44a:=Ext.r a3;have pr44b:=Ext.r g1;have pr44c:=Ext.r k1
          refine rg0 wr ?_
          refine' tkd 0 ?_;refine' tkd 2 ?_;refine' tkd 4 ?_;refine' tkd 6 ?_;refine' tkd 8 ?_;refine' tkd 10 ?_;refine' tkd 12 ?_;refine' tkN 14 ?_;refine' tkN 15 ?_;refine' tkN 16 ?_;refine' tkN 17 ?_;refine' tkN 18 ?_;refine' tkN 19 ?_;refine' tkN 20 ?_;refine' tkN 21 ?_;refine' tkN 22 ?_;refine' tkN 23 ?_;refine' tkN 24 ?_;refine' tkN 25 ?_;refine' tkN 26 ?_;refine' tkL 27 ?_;refine A0a (by kernel_rfl) ?_ _;intro x1 _ Ex1;clear pr44a pr44b pr44c
          go_wp2_with fail
          go_roundg (i+1-(k+1))
          case measure=>omega
          case rel=>
           refine ⟨k+1,by omega,by omega,by go_num,(show Aside _ from HE4.out.trans Ex1),(show Aside _ from fun c x hc hx=>?_)⟩
           by_cases e:c=k
           . subst e;rw [HQ'.out] at hx
             cases hx
             intro e;exact HE0.out (by rw [e])
           exact HA2.out c x (by omega) hx
        have tk2:decide ((k:Int) < (i:Int))=false:=dF;have hki:k=i:=by omega
        go_wp2_with fail
        go_roundg (n4-(i+1))
        case measure=>omega
        case rel=>
         refine ⟨i+1,by omega,by omega,by go_num,(show Aside _ from HE4.out),(show Aside _ from fun a c x y ha hc hx hy=>?_),(show Aside _ from fun a x ha hx=>?_)⟩
         . by_cases e:a=i
           . subst e;rw [HQ.out] at hx
             cases hx
             exact HA2.out c y (by omega) hy
           exact HA.out a c x y (by omega) hc hx hy
         by_cases e:a=i
         . subst e;rw [HQ.out] at hx
           cases hx
           exact HFL.out
         exact HF.out a x (by omega) hx
    have tk:decide ((i:Int) < (n4:Int))=false:=dF;have hin:∀ (a:Nat) (x:Int × List Int),d.nodes[a]? = some x->a < i:=fun a x hx=>by
     have:=(q5b.1 hx).1;rw [H4.out] at this;omega
    have OC:Nd.Once d:=⟨ND.out,H3b fun a c x y hca hx hy=>HA.out a c x y (hin a x hx) hca hx hy,fun x hx=>by
     obtain ⟨a,ha⟩:=t6b.1 hx;exact HF.out a x (hin a x ha) ha⟩
    have OC:=hZ OC;have EX:=hZ (E0.out.trans HE2.out);clear HA HF ND hin;obtain ⟨u,hu⟩:∃ u,d.srch (n4+1) rt ([],[])=u:=⟨_,rfl⟩
    rw [hu] at SE BL;have blen:=BL.out;obtain ⟨x1,hx1⟩:∃ x,decide (u.1=Nd.upto n4)=x:=⟨_,rfl⟩
    obtain ⟨x2,hx2⟩:∃ x,decide (u.2=Nd.upto n3)=x:=⟨_,rfl⟩
    have hbx:b=(x1 && x2):=by
     have e1:d.Is ↔ u=(Nd.upto n4,Nd.upto n3):=by
      constructor
      . intro h;have:=h.search;rw [H3.out,H4.out,HR.out,hu] at this;exact this
      intro e;refine { OC.out with search:=?_ };rw [H3.out,H4.out,HR.out,hu];exact e
     have e2:b=true ↔ u=(Nd.upto n4,Nd.upto n3):=HB.out.trans e1
     rw [<- hx1,<- hx2]
     by_cases h1:u.1=Nd.upto n4
     . by_cases h2:u.2=Nd.upto n3
       . rw [e2.2 (Prod.ext h1 h2),E5c h1,E5c h2];rfl
       rw [D7c h2,Bool.and_false]
       cases b with
       | false=>rfl
       | true=>exact absurd (congrArg Prod.snd (e2.1 rfl)) h2
     rw [D7c h1,E3c]
     cases b with
     | false=>rfl
     | true=>exact absurd (congrArg Prod.fst (e2.1 rfl)) h1
    have HX1:=hZ hx1;have HX2:=hZ hx2;have OW:=hZ (O0.out.ext HE2.out);clear hu hx1 hx2 blen a0 a1 a2 a3 a4 az;obtain ⟨a0,a1,a2,a3,a4,az⟩:=id OW.out;subst hbx
    cases x1 with
    | false=>
     go_wp2_with (first
      | (go_at_call 154;refine (SE.out _ EX.out).mono ?_;rintro e w1 ⟨q1,c1,q2,c2,rfl,hT⟩;have T:=hZ hT;have O1:=hZ (OW.out.ext hT.ext0);obtain ⟨b0,b1,b2,b3,b4,bz⟩:=id O1.out;clear hT)
      | (go_at_call 155;refine (g9a T.out.r1.at_ n4 HX1.out).mono ?_;rintro e w8 ⟨rfl,hb8⟩;have c2':=hb8.q b2))
     go_returns;exact ⟨rfl,(EX.out.trans T.out.ext0).trans hb8⟩
    | true=>
     go_wp2_with (first
      | (go_at_call 154;refine (SE.out _ EX.out).mono ?_;rintro e w1 ⟨q1,c1,q2,c2,rfl,hT⟩;have T:=hZ hT;have O1:=hZ (OW.out.ext hT.ext0);obtain ⟨b0,b1,b2,b3,b4,bz⟩:=id O1.out;clear hT)
      | (have _t:=hb8;go_at_call 155;refine (g9a (T.out.r2.at_.ext hb8) n3 HX2.out).mono ?_;rintro e w9 ⟨rfl,hb9⟩)
      | (go_at_call 155;refine (g9a T.out.r1.at_ n4 HX1.out).mono ?_;rintro e w8 ⟨rfl,hb8⟩;have c2':=hb8.q b2))
     go_returns;exact ⟨rfl,((EX.out.trans T.out.ext0).trans hb8).trans hb9⟩
theorem P5a {d:Nd.Dia} (h:I2a d=true):d.Low/\d.Ref d.root d.nodes.length:=by
 unfold I2a at h
 simp only [B8c,A7c,D8c] at h
 obtain ⟨⟨h1,h2⟩,h3⟩:=h
 refine ⟨fun i hi k hk=>?_,F8b.1 h3⟩
 have:=h2 i hi
 unfold G5a at this
 simp only [B8c,A7c] at this
 have:=this.2 k hk
 unfold kidB at this
 simp only [B8c] at this
 exact F8b.1 this.1
def F6a (d:Nd.Dia):Int:=if Hp.A2a d.sizes d.order ≠ 0 then Hp.A2a d.sizes d.order else if I2a d=true then 0 else 4
open Classical in
noncomputable def E8a (d:Nd.Dia):Int:=if F6a d ≠ 0 then F6a d else if d.Is then 0 else 4
structure q7a (d:Nd.Dia):Prop where
 f:∀ v ∈ d.ends,0<=v.1
 el:d.ends.length<=1000000
 nl:d.nodes.length<=6000
 kids:∀ q ∈ d.nodes,∀ k ∈ q.2,-9223372036854775808<=k/\k<=9223372036854775807
 root : -9223372036854775808<=d.root/\d.root<=9223372036854775807
theorem q7a.in_ {d:Nd.Dia} (h:q7a d) (hf:Hp.A2a d.sizes d.order=0):DgIn d:=
 ⟨(Hp.H8a hf).1.toFr.few,h.el,by have:=h.nl;omega,h.f,h.kids,h.root⟩
theorem D4b {L:DgL} {d:Nd.Dia} (h:DgRd w L d.sizes d.order d.ends d.nodes) (hN:q7a d) :
    Calls prog 98 #[dgV L d.sizes.length d.order.length d.ends.length d.nodes.length d.root] w (Rt w (.int .i64 (F6a d))):=by
  have H:=hZ h;have CF:=hZ (fun W (hE:Ext w W)=>R6a (h.s.ext hE) (h.o.ext hE));have nl:=hN.nl;have l4:=h.n.le;rw [A7a h.kl] at l4
  by_cases hfe:Hp.A2a d.sizes d.order=0
  . have LO:=hZ (fun W (hE:Ext w W)=>a6b (h.ext hE) (hN.in_ hfe));rw [hfe] at CF;have e:F6a d=if I2a d=true then 0 else 4:=by unfold F6a;rw [H4c (by omega)]
    have HEQ:=hZ e;unfold dgV DgL.cells at LO ⊢;clear h hN hfe e;generalize d.sizes.length=n1 at *;generalize d.order.length=n2 at *;generalize d.ends.length=n3 at *;generalize d.nodes.length=n4 at *;generalize d.root=rt at *;generalize F6a d=res at *;have tn:decide ((n4:Int) > 6000)=false:=dF
    cases hlb:I2a d with
    | true=>
     rw [hlb] at LO;have e:=HEQ.out;rw [hlb,H5c rfl] at e;subst e;clear HEQ hlb;go_enter func98,ntmps98
     go_wp2_with (first
      | (go_at_call 57;refine m4_ (CF.out _ (exx)) fun w1 hb1 hc1 hf1 hs1=>?_)
      | (go_at_call 153;refine m4_ (LO.out _ (exx)) fun w2 hb2 hc2 hf2 hs2=>?_))
     go_returns;exact ⟨rfl,exx⟩
    | false=>
     rw [hlb] at LO;have e:=HEQ.out;rw [hlb,H4c (by simp)] at e;subst e;clear HEQ hlb;go_enter func98,ntmps98
     go_wp2_with (first
      | (go_at_call 57;refine m4_ (CF.out _ (exx)) fun w1 hb1 hc1 hf1 hs1=>?_)
      | (go_at_call 153;refine m4_ (LO.out _ (exx)) fun w2 hb2 hc2 hf2 hs2=>?_))
     go_returns;exact ⟨rfl,exx⟩
  have e:F6a d=Hp.A2a d.sizes d.order:=by unfold F6a;rw [H5c hfe]
  rw [e];have t0:(Hp.A2a d.sizes d.order != 0)=true:=by simpa using hfe
  clear h hN e;unfold dgV DgL.cells;generalize Hp.A2a d.sizes d.order=fe at *;generalize d.sizes.length=n1 at *;generalize d.order.length=n2 at *;generalize d.ends.length=n3 at *;generalize d.nodes.length=n4 at *;generalize d.root=rt at *;clear hfe;go_enter func98,ntmps98
  go_wp2_with (go_at_call 57;refine m4_ (CF.out _ (exx)) fun w1 hb1 hc1 hf1 hs1=>?_)
  go_returns;exact ⟨rfl,exx⟩
theorem X4b {L:DgL} {d:Nd.Dia} (h:DgRd w L d.sizes d.order d.ends d.nodes) (hN:q7a d) :
    Calls prog 35 #[dgV L d.sizes.length d.order.length d.ends.length d.nodes.length d.root] w (Rt w (.int .i64 (E8a d))):=by
  classical
  have H:=hZ h;have CL:=hZ (fun W (hE:Ext w W)=>D4b (h.ext hE) hN)
  by_cases hle:F6a d=0
  . rw [hle] at CL;have hfe:Hp.A2a d.sizes d.order=0:=by
     unfold F6a at hle
     split at hle
     . exact hle
     rename_i h
     simpa using h
    have hlb:I2a d=true:=by
     unfold F6a at hle;rw [H4c (by omega)] at hle
     split at hle
     . assumption
     cases hle
    obtain ⟨hL,hR⟩:=P5a hlb;have DI:=hZ (fun W (hE:Ext w W)=>L6b (b:=decide d.Is) (h.ext hE) (hN.in_ hfe) hL hR (by simp));have e:E8a d=if d.Is then 0 else 4:=by unfold E8a;rw [H4c (by omega)]
    have HEQ:=hZ e;unfold dgV DgL.cells at CL DI ⊢;clear h hN hfe e hle hlb hL hR;generalize d.sizes.length=n1 at *;generalize d.order.length=n2 at *;generalize d.ends.length=n3 at *;generalize d.nodes.length=n4 at *;generalize d.root=rt at *;generalize E8a d=res at *
    by_cases hI:d.Is
    . simp only [E5c hI] at DI;have e:=HEQ.out;rw [H5c hI] at e;subst e;clear HEQ hI;go_enter func35,ntmps35
      go_wp2_with (first
       | (go_at_call 98;refine m4_ (CL.out _ (exx)) fun w1 hb1 hc1 hf1 hs1=>?_)
       | (go_at_call 99;refine m4_ (DI.out _ (exx)) fun w2 hb2 hc2 hf2 hs2=>?_))
      go_returns;exact ⟨rfl,exx⟩
    simp only [D7c hI] at DI;have e:=HEQ.out;rw [H4c hI] at e;subst e;clear HEQ hI;go_enter func35,ntmps35
    go_wp2_with (first
     | (go_at_call 98;refine m4_ (CL.out _ (exx)) fun w1 hb1 hc1 hf1 hs1=>?_)
     | (go_at_call 99;refine m4_ (DI.out _ (exx)) fun w2 hb2 hc2 hf2 hs2=>?_))
    go_returns;exact ⟨rfl,exx⟩
  have e:E8a d=F6a d:=by unfold E8a;rw [H5c hle]
  rw [e];have t0:(F6a d != 0)=true:=by simpa using hle
  clear h hN e;unfold dgV DgL.cells at CL ⊢;generalize F6a d=fe at *;generalize d.sizes.length=n1 at *;generalize d.order.length=n2 at *;generalize d.ends.length=n3 at *;generalize d.nodes.length=n4 at *;generalize d.root=rt at *;clear hle;go_enter func35,ntmps35
  go_wp2_with (go_at_call 98;refine m4_ (CL.out _ (exx)) fun w1 hb1 hc1 hf1 hs1=>?_)
  go_returns;exact ⟨rfl,exx⟩
theorem j9b (f n:Int) (h0:0<=f) (hn : -9223372036854775808<=n/\n<=9223372036854775807) :
    Calls prog 188 #[.agg #[.int .u8 f,.int .i64 n]] w (Rt w (.bool (F0a (f,n)))):=by
  by_cases hf:f=0
  . subst hf;have e:F0a (0,n)=Hp.within (-9999) 9999 n:=by unfold F0a;rw [H5c rfl]
    have hr : -9223372036854775808<=n/\n<=9223372036854775807:=hn
    have hs:∀ t:TypeId,SliceAt ((w.alloc (.cells #[.int .u8 0,.int .i64 n] 43)).alloc (.cells #[.int .i64 n] t)) (some ⟨w.heap.size+1,0,none⟩) 1 [n]:=fun t=>by
     have:=SliceAt.one (w.alloc (.cells #[.int .u8 0,.int .i64 n] 43)) n hr.1 hr.2 t;rw [show (w.alloc (.cells #[.int .u8 0,.int .i64 n] 43)).heap.size=w.heap.size+1 from by simp] at this;exact this
    have e2 : [n].all (fun m=>decide (-9999<=m) && decide (m<=9999))=Hp.within (-9999) 9999 n:=by
     simp only [E8c,List.all_nil,F4c];rfl
    have W1:=hZ (fun (t:TypeId)=>K1a (hs t) e2);rw [e];generalize Hp.within (-9999) 9999 n=b at *;clear hn hr e e2 hs;go_enter func188,ntmps188
    go_wp2_with (go_at_call 165;refine m4_ (W1.out _) fun w1 hb1 hc1 hf1 hs1=>?_)
    go_returns;exact ⟨rfl,exx⟩
  have t0:decide (f > 0)=true:=dT
  by_cases h4:f<=4
  . have t1:decide (f<=4)=true:=E5c h4;have e:F0a (f,n)=(n == 0):=by
     unfold F0a;rw [H4c hf];simp only [t1,F5c]
     by_cases hn:n=0
     . simp [hn]
     simp [hn]
    rw [e];clear e hf h4;go_enter func188,ntmps188
    go_wp2_with fail
    go_returns;exact ⟨rfl,exx⟩
  have t1:decide (f<=4)=false:=D7c h4;have e:F0a (f,n)=false:=by
   unfold F0a;rw [H4c hf];simp only [t1,E3c]
  rw [e];clear e hf h4;go_enter func188,ntmps188
  go_wp2_with fail
  go_returns;exact ⟨rfl,exx⟩
theorem nAll1 {first cap:Array Value} {b:Bool} (eg:∀ args w,(callFunc g args).run prog w = .ok (.enter g args) w) (hc:w.cell? ⟨bx,0,none⟩=some (.func (.func g) first cap))
    (hs:Calls prog g (first ++ #[.int .i64 x] ++ cap) w (Rt w (.bool b))) :
    Calls prog 213 #[.int .i64 x,.pointer (some ⟨bx,0,none⟩)] w (Rt w (.bool (!b))):=by
  have HS:=hZ hs;clear hs;go_enter func213,ntmps213
  go_wp2_with (go_at_fn g;refine (Calls.mono HS.out ?_);rintro e w' ⟨rfl,hb'⟩)
  go_returns;exact ⟨rfl,hb'⟩
theorem nAll {first cap:Array Value} {is:Int->Bool} {b:Bool} (eg:∀ args w,(callFunc g args).run prog w = .ok (.enter g args) w) (h:SliceAt w p c l) (hs:X9a w g first cap l is) (hb:l.all is=b) :
    Calls prog 189 #[.slice p l.length c,.func (.func g) first cap] w (Rt w (.bool b)):=by
  rw [C3b] at hb;have key:∀ t,Says (w.alloc (.cells #[.func (.func g) first cap] t)) 213 #[] #[.pointer (some ⟨w.heap.size,0,none⟩)] l (fun x=>!is x):=by
   intro t j x hx hall W hW;have hlt:w.heap.size < (w.alloc (.cells #[.func (.func g) first cap] t)).heap.size:=by simp
   have hc:W.cell? ⟨w.heap.size,0,none⟩=some (.func (.func g) first cap):=by
    rw [hW.cell hlt 0];have:=s8b w #[.func (.func g) first cap] t (0,0) 0;rw [this];rfl
   have:=nAll1 eg hc (hs j x hx (fun i y hi hy=>by simpa using hall i y hi hy) W ((Ext.alloc (Ext.refl w) _).trans hW))
   simpa using this
  have H:=hZ h;have K:=hZ key;clear h hs eg key;subst hb;go_enter func189,ntmps189
  go_wp2_with (go_at_call 167;refine m4_ (J7a (b:=l.any fun x=>!is x) (enters_of func213 (by kernel_rfl) rfl) (H.out.ext (Ext.alloc (Ext.refl w) _)) (K.out _) rfl) fun w1 hb1 hc1 hf1 hs1=>?_)
  go_returns;exact ⟨rfl,exx⟩
theorem nAllV1 (f n:Int) (h0:0<=f) (hn : -9223372036854775808<=n/\n<=9223372036854775807) (hc:w.cell? ⟨bx,0,none⟩=some (.func (.func 188) #[] #[])) :
    Calls prog 212 #[.agg #[.int .u8 f,.int .i64 n],.pointer (some ⟨bx,0,none⟩)] w (Rt w (.bool (!F0a (f,n)))):=by
  have HS:=hZ (fun W=>j9b (w:=W) f n h0 hn);have eg:∀ args w,(callFunc 188 args).run prog w = .ok (.enter 188 args) w:=enters_of func188 (by kernel_rfl) rfl
  generalize F0a (f,n)=b at *;have zb:=cell_lt hc;go_enter func212,ntmps212
  go_wp2_with (go_at_fn 188;refine (Calls.mono (HS.out _) ?_);rintro e w' ⟨rfl,hb'⟩)
  go_returns;exact ⟨rfl,exx⟩
def m1b (w:World) (g:Nat) (cap:Array Value) (E:List (Int × Int)) (q:Int × Int->Bool):Prop:=
 ∀ v ∈ E,∀ W,Ext w W->Calls prog g (#[.agg #[.int .u8 v.1,.int .i64 v.2]] ++ cap) W fun e w'=>e = .returned (.bool (q v))/\Ext W w'
def h8a (q:Int × Int->Bool) (l:List (Int × Int)):Int:=match l.findIdx? q with | some i=>i | none=>-1
theorem O2b {l:List (Int × Int)} {q:Int × Int->Bool} {x:Int × Int} (hk:l[k]? = some x) (hq:q x=true) (h:∀ (i:Nat) y,i < k->l[i]? = some y->q y=false):h8a q l=k:=by
 have e:l.findIdx? q=some k:=by
  rw [p4b];obtain ⟨hl,he⟩:=q5b.1 hk;exact ⟨hl,by rw [he];exact hq,fun j hj=>by rw [h j _ hj (r1b (by omega))];simp⟩
 simp [h8a,e]
theorem B2b {l:List (Int × Int)} {q:Int × Int->Bool} (h:∀ (i:Nat) y,l[i]? = some y->q y=false):h8a q l = -1:=by
 have e:l.findIdx? q=none:=by
  rw [q7b];intro y hy;obtain ⟨j,hj⟩:=t6b.1 hy;exact h j _ hj
 simp [h8a,e]
theorem K9b (q:Int × Int->Bool) (l:List (Int × Int)):decide (0<=h8a q l)=l.any q:=by
 unfold h8a
 cases h:l.findIdx? q with
 | none=>
  have:=q7b.1 h;simp only [show ¬ (0:Int) <= -1 by omega,decide_false]
  symm
  rw [List.any_eq_false];intro x hx;rw [this x hx];simp
 | some i=>
  obtain ⟨hl,hq,_⟩:=p4b.1 h;simp only [x5b,decide_true]
  symm
  rw [B2c];exact ⟨l[i],A4c _,hq⟩
theorem J7b {cap:Array Value} {E:List (Int × Int)} {q:Int × Int->Bool} (eg:∀ args w,(callFunc g args).run prog w = .ok (.enter g args) w) (h:RdN w 2 p c (E.map endC)) (hs:m1b w g cap E q) :
    Calls prog 223 #[.slice p E.length c,.func (.func g) #[] cap] w (Rt w (.int .i64 (h8a q E))):=by
  have hle:=h.le;have hcap:=h.cap;rw [C6c] at hle;have H:=hZ h;have HS:=hZ hs;clear h hs;generalize hL:E.length=n at hle ⊢;have HL:=hZ hL;clear hL;go_enter func223,ntmps223;go_wp2
  go_loopg [8] n (fun gg s8 wr=>∃ kk:Nat,kk<=n/\n-kk<=gg/\s8 = .int .i64 kk/\Aside (Ext w wr)/\Aside (∀ (i:Nat) y,i < kk->E[i]? = some y->q y=false))
  case atStart=>exact ⟨0,G9c _,by omega,rfl,Ext.refl w,fun i y hi=>absurd hi (D0c _)⟩
  case round=>
   obtain ⟨kk,hkk,hg,rfl,HE,A⟩:=hrel
   by_cases hlt:kk < n
   . obtain ⟨x,hx⟩:=A5a (E:=E) (j:=kk) (by rw [HL.out];exact hlt);obtain ⟨b,o,rfl,hb,hc⟩:=(H.out.ext HE.out).L0a (by rw [HL.out];omega);obtain ⟨g1,g2⟩:=hc kk x hx;have hcall:=hZ (HS.out x (u1b hx) wr HE.out);have HX:=hZ hx;clear hc hx
     cases hq:q x with
     | true=>
      have HQ:=hZ hq;clear hq
      go_wp2_with (go_at_fn g;refine (Calls.mono hcall.out ?_);rintro e w' ⟨rfl,hb'⟩;rw [HQ.out])
      go_returns;exact ⟨by rw [O2b HX.out HQ.out A.out];rfl,HE.out.trans hb'⟩
     | false=>
      have HQ:=hZ hq;clear hq
      go_wp2_with (go_at_fn g;refine (Calls.mono hcall.out ?_);rintro e w' ⟨rfl,hb'⟩;rw [HQ.out])
      go_roundg (n-(kk+1))
      case measure=>omega
      case rel=>
       refine ⟨kk+1,by omega,by omega,by go_num,(show Aside _ from HE.out.trans hb'),(show Aside _ from fun i y hi hy=>?_)⟩
       by_cases e:i=kk
       . subst e;have:=HX.out;rw [hy] at this
         cases this
         exact HQ.out
       exact A.out i y (by omega) hy
   have:kk=n:=by omega
   subst this;go_wp2;go_returns;exact ⟨by rw [B2b (fun i y hy=>A.out i y (by have:=(q5b.1 hy).1;rw [HL.out] at this;exact this) hy)];rfl,HE.out⟩
theorem r0a {cap:Array Value} {E:List (Int × Int)} {q:Int × Int->Bool} {b:Bool} (eg:∀ args w,(callFunc g args).run prog w = .ok (.enter g args) w) (h:RdN w 2 p c (E.map endC)) (hs:m1b w g cap E q) (hb:E.any q=b) :
    Calls prog 211 #[.slice p E.length c,.func (.func g) #[] cap] w (Rt w (.bool b)):=by
  rw [<- K9b] at hb;have H:=hZ h;have HS:=hZ hs;have EG:=hZ eg;clear h hs eg;subst hb;go_enter func211,ntmps211
  go_wp2_with (go_at_call 223;refine m4_ (J7b EG.out H.out HS.out) fun w1 hb1 hc1 hf1 hs1=>?_)
  go_returns;exact ⟨rfl,exx⟩
theorem nAllV {E:List (Int × Int)} {b:Bool} (h:RdN w 2 p c (E.map endC)) (hf:∀ v ∈ E,0<=v.1 /\ -9223372036854775808<=v.2/\v.2<=9223372036854775807) (hb:E.all F0a=b) :
    Calls prog 187 #[.slice p E.length c,.func (.func 188) #[] #[]] w (Rt w (.bool b)):=by
  have hb:(!(E.any fun v=>!F0a v))=b:=by
   rw [<- hb,List.all_eq_not_any_not]
  have key:∀ t,m1b (w.alloc (.cells #[.func (.func 188) #[] #[]] t)) 212 #[.pointer (some ⟨w.heap.size,0,none⟩)] E (fun v=>!F0a v):=by
   intro t v hv W hW;have hlt:w.heap.size < (w.alloc (.cells #[.func (.func 188) #[] #[]] t)).heap.size:=by simp
   have hc:W.cell? ⟨w.heap.size,0,none⟩=some (.func (.func 188) #[] #[]):=by
    rw [hW.cell hlt 0];have:=s8b w #[.func (.func 188) #[] #[]] t (0,0) 0;rw [this];rfl
   exact nAllV1 v.1 v.2 (hf v hv).1 (hf v hv).2 hc
  have H:=hZ h;have K:=hZ key;clear h hf key;subst hb;go_enter func187,ntmps187
  go_wp2_with (go_at_call 211;refine m4_ (r0a (b:=E.any fun v=>!F0a v) (enters_of func212 (by kernel_rfl) rfl) (H.out.ext (Ext.alloc (Ext.refl w) _)) (K.out _) rfl) fun w1 hb1 hc1 hf1 hs1=>?_)
  go_returns;exact ⟨rfl,exx⟩
def lsV (L:DgL) (zs os es ns:Nat) (x:Int):Value:=.agg #[.slice L.ps zs L.cs,.slice L.po os L.co,.slice L.ps zs L.cs,.slice L.po os L.co,.slice L.pe es L.ce,.slice L.pn ns L.cn,.int .i64 x]
theorem nEnd (k:Int) (h1 : -9223372036854775808<=k) (h2:k < 0) :
    Calls prog 198 #[.int .i64 k] w (Rt w (.int .i64 (-1-k))):=by
  have s1:IntKind.i64.wrap (-1-k) = -1-k:=E4c _ (by omega);clear h1 h2;go_enter func198,ntmps198
  go_wp2_with fail
  go_returns;exact ⟨rfl,exx⟩
theorem nRank {s:Value} (h:SliceAt w q c o) (v:Int) :
    Calls prog 215 #[.agg #[s,.slice q o.length c],.int .i64 v] w (Rt w (.int .i64 (Hp.index o v))):=by
  have HI:=hZ (fun W (hE:Ext w W)=>m5a (x:=v) (h.ext hE));clear h;generalize o.length=n at *;generalize Hp.index o v=x at *;go_enter func215,ntmps215
  go_wp2_with (go_at_call 169;refine m4_ (HI.out _ (exx)) fun w1 hb1 hc1 hf1 hs1=>?_)
  go_returns;exact ⟨rfl,exx⟩
def kidN (d:Nd.Dia) (k:Int) (below:Nat) (rk:Int):Bool:=if k < 0 then decide (-1-k < d.ends.length) else decide (k < below) && decide (Hp.index d.order (d.nodeAt k.toNat).1 > rk)
theorem h4b {L:DgL} {d:Nd.Dia} (h:DgRd w L d.sizes d.order d.ends d.nodes) (k:Int) (below:Nat) (rk:Int) (hk : -9223372036854775808<=k) (hb:below<=d.nodes.length) (hel:d.ends.length<=1000000) :
    Calls prog 191 #[lsV L d.sizes.length d.order.length d.ends.length d.nodes.length d.root,.int .i64 k,.int .i64 below,.int .i64 rk] w (Rt w (.bool (kidN d k below rk))):=by
  have l3:=h.e.le;have l4:=h.n.le;have c4:=h.n.cap;rw [C6c] at l3;rw [A7a h.kl] at l4;have H:=hZ h;have mixed:prog.follows .mixedOrders=true:=by kernel_rfl
  unfold lsV
  by_cases h0:k < 0
  . have e:kidN d k below rk=decide (-1-k < (d.ends.length:Int)):=by unfold kidN;rw [H5c h0]
    rw [e];have tk:decide (k < 0)=true:=E5c h0;have HE:=hZ (fun W=>nEnd (w:=W) k hk h0);clear e h h0;generalize d.sizes.length=n1 at *;generalize d.order.length=n2 at *;generalize d.ends.length=n3 at *;generalize d.nodes.length=n4 at *;generalize d.root=rt at *;go_enter func191,ntmps191
    go_wp2_with fail
    refine B0a (F:=fun W=>Hid (Ext w W)/\W.cell? ⟨w.heap.size,4,none⟩=some (.slice L.pe n3 L.ce)) ⟨hZ (exx),by go_simp⟩ ?_;intro w0 ⟨E0,c0⟩;generalize w.heap.size=g at c0 ⊢;have zg:=cell_lt c0
    go_wp2_with fail
    have pr45a:=Ext.r c0
    refine rg0 w0 ?_
    refine' tkL 0 ?_;refine' tkR 1 (v:=.int .i64 (-1-k)) rfl (Or.inr ⟨by rfl,198,_, ?hx1_1328, ?hy1_1328⟩) ?rest1_1328
    case hx1_1328=>(intro w hSw;go_simp;try with_reducible rfl)
    case hy1_1328=>exact fun w hE=>(HE.out _).mono (fun _ _ h=>⟨h.1,h.2,Ext.trans hE h.2⟩)
    refine layy ?_;refine' tkd 2 ?_;refine' tkd 4 ?_;refine' tkd 6 ?_;refine A0a (by kernel_rfl) ?_ _;intro x1 _ Ex1;clear pr45a
    go_wp2_with fail
    go_returns;exact ⟨rfl,E0.out.trans Ex1⟩
  have tk:decide (k < 0)=false:=D7c h0;obtain ⟨m,rfl⟩:∃ m:Nat,k=(m:Int):=⟨k.toNat,by omega⟩
  by_cases hlt:m < below
  . obtain ⟨q,hq⟩:=A5a (E:=d.nodes) (j:=m) (by omega);obtain ⟨kk,hkk⟩:=A5a (E:=L.K) (j:=m) (by rw [h.kl];omega);obtain ⟨b,o,hpn,hnb,hc⟩:=h.node_cells (by omega);have g1:=(hc m q kk hq hkk).1;have hqa:d.nodeAt m=q:=by unfold Nd.Dia.nodeAt;rw [hq];rfl
    have e:kidN d (m:Int) below rk=decide (Hp.index d.order q.1 > rk):=by
     unfold kidN;rw [H4c h0,E5c (show (m:Int) < (below:Int) by omega),F5c,z5b,hqa]
    have tb:decide ((m:Int) < (below:Int))=true:=dT;have RK:=hZ (fun W (hE:Ext w W)=>nRank (s:=.slice L.ps d.sizes.length L.cs) (h.o.ext hE) q.1);have hm4:m < d.nodes.length:=by omega
    rw [e,hpn];clear e h hq hkk hc hqa hpn h0;generalize q.1=qv at *;generalize Hp.index d.order qv=ix at *;generalize d.sizes.length=n1 at *;generalize d.order.length=n2 at *;generalize d.ends.length=n3 at *;generalize d.nodes.length=n4 at *;generalize d.root=rt at *;go_enter func191,ntmps191
    go_wp2_with fail
    refine B0a (F:=fun W=>Hid (Ext w W)/\W.cell? ⟨w.heap.size,0,none⟩=some (.slice L.ps n1 L.cs)/\W.cell? ⟨w.heap.size,1,none⟩=some (.slice L.po n2 L.co)/\W.cell? ⟨w.heap.size,5,none⟩=some (.slice (some ⟨b,o,none⟩) n4 L.cn)/\W.cell? ⟨b,o+m * 2,none⟩=some (.int .i64 qv)) ⟨hZ (exx),by go_simp,by go_simp,by go_simp,by go_simp⟩ ?_;intro w0 ⟨E0,c0,c1,c5,g1⟩;generalize w.heap.size=g at c0 c1 c5 ⊢;have zg:=cell_lt c0;have zb:=cell_lt g1
    go_wp2_with fail
    have pr46a:=Ext.r c0;have pr46b:=Ext.r c1;have pr46c:=Ext.r c5;have pr46d:=Ext.r g1
    refine rg0 w0 ?_
    refine' tkd 0 ?_;refine' tkd 2 ?_;refine' tkd 4 ?_;refine' tkd 6 ?_;refine' tkd 8 ?_;refine' tkd 10 ?_;refine' tkL 12 ?_;refine' tkR 13 (v:=.int .i64 ix) rfl (Or.inr ⟨by rfl,215,_, ?hx13_1348, ?hy13_1348⟩) ?rest13_1348
    case hx13_1348=>(intro w hSw;go_simp;try with_reducible rfl)
    case hy13_1348=>exact fun w hE=>(RK.out _ (E0.out.trans hE)).mono (fun _ _ h=>⟨h.1,h.2,Ext.trans hE h.2⟩)
    refine layy ?_;refine' tkd 14 ?_;refine' tkd 16 ?_;refine A0a (by kernel_rfl) ?_ _;intro x1 _ Ex1;clear pr46a pr46b pr46c pr46d
    go_wp2_with fail
    go_returns;exact ⟨rfl,E0.out.trans Ex1⟩
  have e:kidN d (m:Int) below rk=false:=by
   unfold kidN;rw [H4c h0,D7c (show ¬ (m:Int) < (below:Int) by omega),E3c]
  have tb:decide ((m:Int) < (below:Int))=false:=dF;rw [e];clear e h h0;generalize d.sizes.length=n1 at *;generalize d.order.length=n2 at *;generalize d.ends.length=n3 at *;generalize d.nodes.length=n4 at *;generalize d.root=rt at *;go_enter func191,ntmps191
  go_wp2_with fail
  refine B0a (F:=fun W=>Hid (Ext w W)) (hZ (exx)) ?_;intro w0 E0;generalize w.heap.size=g
  go_wp2_with fail
  refine rg0 w0 ?_
  refine' tkd 0 ?_;refine' tkd 2 ?_;refine' tkN 4 ?_;refine' tkN 5 ?_;refine' tkN 6 ?_;refine' tkN 7 ?_;refine' tkN 8 ?_;refine' tkN 9 ?_;refine' tkN 10 ?_;refine' tkN 11 ?_;refine' tkN 12 ?_;refine' tkN 13 ?_;refine' tkN 14 ?_;refine' tkN 15 ?_;refine' tkd 16 ?_;refine A0a (by kernel_rfl) ?_ _;intro x1 _ Ex1
  go_wp2_with fail
  go_returns;exact ⟨rfl,E0.out.trans Ex1⟩
structure LsAt (W:World) (g:Nat) (L:DgL) (n1 n2 n3 n4:Nat) (rt:Int):Prop where
 c0:W.cell? ⟨g,0,none⟩=some (.slice L.ps n1 L.cs)
 c1:W.cell? ⟨g,1,none⟩=some (.slice L.po n2 L.co)
 c2:W.cell? ⟨g,2,none⟩=some (.slice L.ps n1 L.cs)
 c3:W.cell? ⟨g,3,none⟩=some (.slice L.po n2 L.co)
 c4:W.cell? ⟨g,4,none⟩=some (.slice L.pe n3 L.ce)
 c5:W.cell? ⟨g,5,none⟩=some (.slice L.pn n4 L.cn)
 c6:W.cell? ⟨g,6,none⟩=some (.int .i64 rt)
theorem LsAt.ext {W:World} {L:DgL} {n1 n2 n3 n4:Nat} {rt:Int} (h:LsAt W g L n1 n2 n3 n4 rt) (k:Ext W W'):LsAt W' g L n1 n2 n3 n4 rt:=by
 have z:=cell_lt h.c0
 exact ⟨k.q h.c0,k.q h.c1,k.q h.c2,k.q h.c3,k.q h.c4,k.q h.c5,k.q h.c6⟩
theorem O7b {L:DgL} {d:Nd.Dia} (h:DgRd w L d.sizes d.order d.ends d.nodes) {gd gn gb:Nat} (k:Int) (i:Nat) (v:Int) (hd:LsAt w gd L d.sizes.length d.order.length d.ends.length d.nodes.length d.root) (hn:w.cell? ⟨gn,0,none⟩=some (.int .i64 (i:Int))) (hb:w.cell? ⟨gb,0,none⟩=some (.int .i64 v))
    (hk : -9223372036854775808<=k) (hi:i<=d.nodes.length) (hel:d.ends.length<=1000000) :
    Calls prog 214 #[.int .i64 k,.pointer (some ⟨gd,0,none⟩),.pointer (some ⟨gn,0,none⟩),.pointer (some ⟨gb,0,none⟩)] w (Rt w (.bool (kidN d k i (Hp.index d.order v)))):=by
  have KD:=hZ (fun W (hE:Ext w W)=>h4b (h.ext hE) k i (Hp.index d.order v) hk hi hel);have RK:=hZ (fun W (hE:Ext w W)=>nRank (s:=.slice L.ps d.sizes.length L.cs) (h.o.ext hE) v);have HD:=hZ hd;have zd:=cell_lt hd.c0;have zn:=cell_lt hn;have zb:=cell_lt hb;have mixed:prog.follows .mixedOrders=true:=by kernel_rfl
  unfold lsV at KD;clear h hd;generalize kidN d k i (Hp.index d.order v)=res at *;generalize Hp.index d.order v=ix at *;generalize d.sizes.length=n1 at *;generalize d.order.length=n2 at *;generalize d.ends.length=n3 at *;generalize d.nodes.length=n4 at *;generalize d.root=rt at *;go_enter func214,ntmps214
  go_wp2_with fail
  refine rg0 w ?_
  refine' tkL 0 ?_ (hy:=by intro w hSw;(obtain ⟨s0,s1,s2,s3,s4,s5,s6⟩:=HD.out.ext hSw;have n':=hSw.q hn;have b':=hSw.q hb);go_simp;try with_reducible rfl);refine' tkL 1 ?_ (hy:=by intro w hSw;(obtain ⟨s0,s1,s2,s3,s4,s5,s6⟩:=HD.out.ext hSw;have n':=hSw.q hn;have b':=hSw.q hb);go_simp;try with_reducible rfl);refine' tkL 2 ?_ (hy:=by intro w hSw;(obtain ⟨s0,s1,s2,s3,s4,s5,s6⟩:=HD.out.ext hSw;have n':=hSw.q hn;have b':=hSw.q hb);go_simp;try with_reducible rfl);refine' tkL 3 ?_ (hy:=by intro w hSw;(obtain ⟨s0,s1,s2,s3,s4,s5,s6⟩:=HD.out.ext hSw;have n':=hSw.q hn;have b':=hSw.q hb);go_simp;try with_reducible rfl);refine' tkL 4 ?_ (hy:=by intro w hSw;(obtain ⟨s0,s1,s2,s3,s4,s5,s6⟩:=HD.out.ext hSw;have n':=hSw.q hn;have b':=hSw.q hb);go_simp;try with_reducible rfl);refine' tkL 5 ?_ (hy:=by intro w hSw;(obtain ⟨s0,s1,s2,s3,s4,s5,s6⟩:=HD.out.ext hSw;have n':=hSw.q hn;have b':=hSw.q hb);go_simp;try with_reducible rfl);refine' tkL 6 ?_ (hy:=by intro w hSw;(obtain ⟨s0,s1,s2,s3,s4,s5,s6⟩:=HD.out.ext hSw;have n':=hSw.q hn;have b':=hSw.q hb);go_simp;try with_reducible rfl);refine' tkR 7 (v:=.int .i64 ix) rfl (Or.inr ⟨by rfl,215,_, ?hx7_1378, ?hy7_1378⟩) ?rest7_1378
  case hx7_1378=>(intro w hSw;go_simp;try with_reducible rfl)
  case hy7_1378=>exact fun w hE=>(RK.out _ hE).mono (fun _ _ h=>⟨h.1,h.2,Ext.trans hE h.2⟩)
  refine layy ?_;refine' tkR 8 (v:=.bool res) rfl (Or.inr ⟨by rfl,191,_, ?hx8_1379, ?hy8_1379⟩) ?rest8_1379
  case hx8_1379=>(intro w hSw;go_simp;try with_reducible rfl)
  case hy8_1379=>exact fun w hE=>(KD.out _ hE).mono (fun _ _ h=>⟨h.1,h.2,Ext.trans hE h.2⟩)
  refine layy ?_;refine' tkL 9 ?_ (hy:=by intro w hSw;(obtain ⟨s0,s1,s2,s3,s4,s5,s6⟩:=HD.out.ext hSw;have n':=hSw.q hn;have b':=hSw.q hb);go_simp;try with_reducible rfl);refine A0a (by kernel_rfl) ?_ _;intro x1 _ Ex1
  go_wp2_with fail
  go_returns;exact ⟨rfl,Ex1⟩
def N6a (d:Nd.Dia) (i:Nat):Bool:=Hp.within 0 ((d.sizes.length:Int)-1) (d.nodeAt i).1 && decide (((d.nodeAt i).2.length:Int)=d.sizes.getD (d.nodeAt i).1.toNat 0) && (d.nodeAt i).2.all (fun k=>kidN d k i (Hp.index d.order (d.nodeAt i).1))
theorem U9b {L:DgL} {d:Nd.Dia} (h:DgRd w L d.sizes d.order d.ends d.nodes) (hi:i < d.nodes.length) (hel:d.ends.length<=1000000) (hzl:d.sizes.length<=6)
    (hk:∀ q ∈ d.nodes,∀ k ∈ q.2,-9223372036854775808<=k/\k<=9223372036854775807) (hv:∀ q ∈ d.nodes,-9223372036854775808<=q.1/\q.1<=9223372036854775807) :
    Calls prog 190 #[lsV L d.sizes.length d.order.length d.ends.length d.nodes.length d.root,.int .i64 (i:Int)] w (Rt w (.bool (N6a d i))):=by
  obtain ⟨q,hq⟩:=A5a (E:=d.nodes) (j:=i) hi;obtain ⟨⟨kp,kc⟩,hkk⟩:=A5a (E:=L.K) (j:=i) (by rw [h.kl];exact hi);obtain ⟨b,o,hpn,hnb,hc⟩:=h.node_cells (by omega);obtain ⟨g1,g2⟩:=hc i q _ hq hkk;simp only at g2;have hqa:d.nodeAt i=q:=by unfold Nd.Dia.nodeAt;rw [hq];rfl
  have SK:=hZ (h.ks i q _ hq hkk);simp only at SK;have HKR:=hZ (hk q (u1b hq));have HVR:=hv q (u1b hq);have B1:=hZ (fun W (hE:Ext w W) gd gn gb k hd hn hb hk=>O7b (h.ext hE) (gd:=gd) (gn:=gn) (gb:=gb) k i q.1 hd hn hb hk (Nat.le_of_lt hi) hel);have H:=hZ h;have hbr:N6a d i=(Hp.within 0 ((d.sizes.length:Int)-1) q.1 && decide ((q.2.length:Int)=d.sizes.getD q.1.toNat 0) && q.2.all (fun k=>kidN d k i (Hp.index d.order q.1))):=by
   unfold N6a;rw [hqa]
  have HBR:=hZ hbr;have kl:=SK.out.le;have kcap:=SK.out.cap;have l4:=h.n.le;have c4:=h.n.cap;rw [A7a h.kl] at l4;have mixed:prog.follows .mixedOrders=true:=by kernel_rfl
  unfold lsV;have tlt:i < d.nodes.length:=hi;have HPN:=hZ hpn;rw [hpn];clear h hq hkk hc hqa hk hv hi hbr hpn;generalize N6a d i=res at *;obtain ⟨v,ks⟩:=q;simp only at g1 g2 SK HKR HVR B1 HBR kl kcap;generalize h1:d.sizes.length=n1 at *;generalize h2:d.order.length=n2 at *;generalize h3:d.ends.length=n3 at *;generalize h4:d.nodes.length=n4 at *;generalize hrt:d.root=rt at *;have H1:=hZ h1;clear h1 h2 h3 h4 hrt;have sb:IntKind.i64.wrap ((n1:Int)-1)=(n1:Int)-1:=E4c _ (by omega);go_enter func190,ntmps190
  go_wp2_with fail
  refine B0a (F:=fun W=>Hid (Ext w W)/\LsAt W w.heap.size L n1 n2 n3 n4 rt/\W.cell? ⟨w.heap.size+1,0,none⟩=some (.int .i64 (i:Int))/\W.cell? ⟨w.heap.size+1+1,0,none⟩=some (.int .i64 v)/\W.cell? ⟨w.heap.size+1+1,1,none⟩=some (.slice kp ks.length kc)) ⟨hZ (exx),⟨by go_simp,by go_simp,by go_simp,by go_simp,by go_simp,by rw [HPN.out];go_simp,by go_simp⟩,by go_simp,by go_simp,by go_simp⟩ ?_;intro w0 ⟨E0,D0',m0,b0,b1⟩;have D0:=hZ D0';generalize w.heap.size+1+1=gb at b0 b1 ⊢;generalize w.heap.size+1=gn at m0 ⊢;generalize w.heap.size=gd at D0' D0 ⊢;have zd:=cell_lt D0'.c0;have zn:=cell_lt m0;have zb:=cell_lt b0;have d0:=D0'.c0;clear D0' g1 g2
  cases hw:Hp.within 0 ((n1:Int)-1) v with
  | false=>
   have e:res=false:=by rw [HBR.out,hw];rfl
   subst e;have e2 : [v].all (fun m=>decide (0<=m) && decide (m<=(n1:Int)-1))=false:=by
    simp only [E8c,List.all_nil,F4c];exact hw
   clear hw HBR;have pr47a:=Ext.r d0
   have pr47b:=Ext.r b0
   refine rg0 w0 ?_
   refine' tkd 0 ?_;refine' tkd 2 ?_;refine' tkd 4 ?_;refine' tkL 6 ?_;refine G8a 7 (fun u w''=>∃ g,u = .slice (some ⟨g,0,none⟩) 1 1/\Ext w0 w''/\SliceAt w'' (some ⟨g,0,none⟩) 1 [v]) rfl (by kernel_rfl) (by rfl) ?run7 ?vs7 ?next7
   case run7=>
    intro w' hE hS;refine .inr ⟨.slice (some ⟨w'.heap.size,0,none⟩) 1 1,w'.alloc (.cells #[.int .i64 v] 3), ?_,⟨_,rfl,((Ext.drew (Ext.refl w0)).trans hE).trans (Ext.alloc (Ext.refl _) _),SliceAt.one w' v HVR.1 HVR.2 _⟩⟩;go_simp
   case vs7=>
    rintro u w'' ⟨g,_,hE,_⟩ W hW;exact hE.trans hW
   case next7=>
    rintro u w1 ⟨g,rfl,hE1,hS1⟩;have WI:=hZ (fun W (hE:Ext w1 W)=>K1a (least:=0) (most:=(n1:Int)-1) (hS1.ext hE) e2);have d1:=hE1.q d0;have f1:=hE1.q b0;have zd1:=cell_lt d1;have zb1:=cell_lt f1;refine layy ?_;refine' tkR 8 (v:=.bool false) rfl (Or.inr ⟨by rfl,165,_, ?hx8_1388, ?hy8_1388⟩) ?rest8_1388
    case hx8_1388=>(intro w hSw;go_simp;try with_reducible rfl)
    case hy8_1388=>exact fun w hE=>(WI.out _ hE).mono (fun _ _ h=>⟨h.1,h.2,Ext.trans hE h.2⟩)
    refine layy ?_;refine' tkL 9 ?_ (hy:=by intro w hSw;(have d1':=hSw.q d1;have b1':=hSw.q f1);go_simp;try with_reducible rfl);refine' tkL 10 ?_ (hy:=by intro w hSw;(have d1':=hSw.q d1;have b1':=hSw.q f1);go_simp;try with_reducible rfl);refine' tkN 11 ?_;refine' tkN 12 ?_;refine' tkN 13 ?_;refine' tkN 14 ?_;refine' tkN 15 ?_;refine' tkN 16 ?_;refine' tkN 17 ?_;refine' tkN 18 ?_;refine' tkN 19 ?_;refine' tkN 20 ?_;refine' tkN 21 ?_;refine' tkL 22 ?_ (hy:=by intro w hSw;(have d1':=hSw.q d1;have b1':=hSw.q f1);go_simp;try with_reducible rfl);refine A0a (by kernel_rfl) ?_ _;intro x1 _ Ex1;clear pr47a pr47b
    go_wp2_with fail
    go_returns;exact ⟨rfl,(E0.out.trans hE1).trans Ex1⟩
  | true=>
   have hwi:0<=v/\v<=(n1:Int)-1:=by simpa [Hp.within] using hw
   have e2 : [v].all (fun m=>decide (0<=m) && decide (m<=(n1:Int)-1))=true:=by
    simp only [E8c,List.all_nil,F4c];exact hw
   have e3:=HBR.out;rw [hw] at e3;clear hw HBR;obtain ⟨m,rfl⟩:∃ m:Nat,v=(m:Int):=⟨v.toNat,by omega⟩
   obtain ⟨sz,hsz⟩:=A4a (l:=d.sizes) (j:=m) (by rw [H1.out];omega);obtain ⟨bs,os,hps,hbs,hcs⟩:=(H.out.s.ext E0.out).cells (by rw [H1.out];omega);have gs:=hcs m sz hsz;have hml:m < n1:=by omega
   have hgd:d.sizes.getD m 0=sz:=by rw [q1b,show d.sizes[m]? = some sz from hsz];rfl
   rw [z5b,hgd,F5c] at e3;have HE3:=hZ e3;rw [hps] at d0;clear hcs hsz hps hwi hgd e3;have ZZ:True:=trivial
   by_cases hne:(ks.length:Int)=sz
   . have t0:((ks.length:Int) != sz)=false:=by simpa using hne
     have e4:res=ks.all (fun k=>kidN d k i (Hp.index d.order (m:Int))):=by rw [HE3.out,E5c hne,F5c]
     have HE4:=hZ e4;clear e4 hne HE3;have pr48a:=Ext.r d0
     have pr48b:=Ext.r b0
     refine rg0 w0 ?_
     refine' tkd 0 ?_;refine' tkd 2 ?_;refine' tkd 4 ?_;refine' tkL 6 ?_;refine G8a 7 (fun u w''=>∃ g,u = .slice (some ⟨g,0,none⟩) 1 1/\Ext w0 w''/\SliceAt w'' (some ⟨g,0,none⟩) 1 [(m:Int)]) rfl (by kernel_rfl) (by rfl) ?run7 ?vs7 ?next7
     case run7=>
      intro w' hE hS;refine .inr ⟨.slice (some ⟨w'.heap.size,0,none⟩) 1 1,w'.alloc (.cells #[.int .i64 (m:Int)] 3), ?_,⟨_,rfl,((Ext.drew (Ext.refl w0)).trans hE).trans (Ext.alloc (Ext.refl _) _),SliceAt.one w' m HVR.1 HVR.2 _⟩⟩;go_simp
     case vs7=>
      rintro u w'' ⟨g,_,hE,_⟩ W hW;exact hE.trans hW
     case next7=>
      rintro u w1 ⟨g,rfl,hE1,hS1⟩;have WI:=hZ (fun W (hE:Ext w1 W)=>K1a (least:=0) (most:=(n1:Int)-1) (hS1.ext hE) e2);have d1:=hE1.q d0;have f1:=hE1.q b0;have f2:=hE1.q b1;have gs1:=hE1.q gs;have zd1:=cell_lt d1;have zb1:=cell_lt f1;have zs1:=cell_lt gs1;refine layy ?_;refine' tkR 8 (v:=.bool true) rfl (Or.inr ⟨by rfl,165,_, ?hx8_1410, ?hy8_1410⟩) ?rest8_1410
      case hx8_1410=>(intro w hSw;go_simp;try with_reducible rfl)
      case hy8_1410=>exact fun w hE=>(WI.out _ hE).mono (fun _ _ h=>⟨h.1,h.2,Ext.trans hE h.2⟩)
      refine layy ?_;refine' tkL 9 ?_ (hy:=by intro w hSw;(have d1':=hSw.q d1;have b1':=hSw.q f1;have b2':=hSw.q f2;have gs':=hSw.q gs1);go_simp;try with_reducible rfl);refine' tkL 10 ?_ (hy:=by intro w hSw;(have d1':=hSw.q d1;have b1':=hSw.q f1;have b2':=hSw.q f2;have gs':=hSw.q gs1);go_simp;try with_reducible rfl);refine' tkL 11 ?_ (hy:=by intro w hSw;(have d1':=hSw.q d1;have b1':=hSw.q f1;have b2':=hSw.q f2;have gs':=hSw.q gs1);go_simp;try with_reducible rfl);refine' tkL 12 ?_ (hy:=by intro w hSw;(have d1':=hSw.q d1;have b1':=hSw.q f1;have b2':=hSw.q f2;have gs':=hSw.q gs1);go_simp;try with_reducible rfl);refine' tkL 13 ?_ (hy:=by intro w hSw;(have d1':=hSw.q d1;have b1':=hSw.q f1;have b2':=hSw.q f2;have gs':=hSw.q gs1);go_simp;try with_reducible rfl);refine' tkL 14 ?_ (hy:=by intro w hSw;(have d1':=hSw.q d1;have b1':=hSw.q f1;have b2':=hSw.q f2;have gs':=hSw.q gs1);go_simp;try with_reducible rfl);refine' tkL 15 ?_ (hy:=by intro w hSw;(have d1':=hSw.q d1;have b1':=hSw.q f1;have b2':=hSw.q f2;have gs':=hSw.q gs1);go_simp;try with_reducible rfl);refine' tkL 16 ?_ (hy:=by intro w hSw;(have d1':=hSw.q d1;have b1':=hSw.q f1;have b2':=hSw.q f2;have gs':=hSw.q gs1);go_simp;try with_reducible rfl);refine' tkL 17 ?_ (hy:=by intro w hSw;(have d1':=hSw.q d1;have b1':=hSw.q f1;have b2':=hSw.q f2;have gs':=hSw.q gs1);go_simp;try with_reducible rfl);refine' tkL 18 ?_ (hy:=by intro w hSw;(have d1':=hSw.q d1;have b1':=hSw.q f1;have b2':=hSw.q f2;have gs':=hSw.q gs1);go_simp;try with_reducible rfl);refine' tkL 19 ?_ (hy:=by intro w hSw;(have d1':=hSw.q d1;have b1':=hSw.q f1;have b2':=hSw.q f2;have gs':=hSw.q gs1);go_simp;try with_reducible rfl);refine' tkL 20 ?_ (hy:=by intro w hSw;(have d1':=hSw.q d1;have b1':=hSw.q f1;have b2':=hSw.q f2;have gs':=hSw.q gs1);go_simp;try with_reducible rfl);refine' tkL 21 ?_ (hy:=by intro w hSw;(have d1':=hSw.q d1;have b1':=hSw.q f1;have b2':=hSw.q f2;have gs':=hSw.q gs1);go_simp;try with_reducible rfl);refine' tkL 22 ?_ (hy:=by intro w hSw;(have d1':=hSw.q d1;have b1':=hSw.q f1;have b2':=hSw.q f2;have gs':=hSw.q gs1);go_simp;try with_reducible rfl);refine A0a (by kernel_rfl) ?_ _;intro x1 _ Ex1;clear pr48a pr48b;have EX:=hZ (hE1.trans Ex1);have c1':=EX.out.q b1;have SA:=hZ (fun W (hE:Ext x1 W) (j:Nat) (x:Int) (hx:Hp.rd ks j=some x) (W':World) (hE':Ext W W')=>B1.out W' (((E0.out.trans EX.out).trans hE).trans hE') gd gn gb x (D0.out.ext ((EX.out.trans hE).trans hE')) ((((EX.out.trans hE).trans hE').cell zn 0).trans m0) ((((EX.out.trans hE).trans hE').cell zb 0).trans b0) (HKR.out x (u1b hx)).1);have SK1:=hZ (fun W (hE:Ext x1 W)=>SK.out.ext (((E0.out.trans EX.out).trans hE)));clear d0 b0 b1 m0 gs d1 f1 f2 gs1 t0;generalize hfn:(fun k=>kidN d k i (Hp.index d.order (m:Int)))=is at *
      go_wp2_with (go_at_call 189;refine m4_ (nAll (b:=res) (enters_of func214 (by kernel_rfl) rfl) (SK1.out _ (exx)) (fun j x hx _ W' hE'=>(by rw [<- hfn];exact SA.out _ (exx) j x hx W' hE')) HE4.out.symm) fun w2 hb2 hc2 hf2 hs2=>?_)
      go_returns;exact ⟨rfl,((E0.out.trans EX.out)).trans hb2⟩
   have t0:((ks.length:Int) != sz)=true:=by simpa using hne
   have e4:res=false:=by rw [HE3.out,D7c hne];rfl
   subst e4;clear hne HE3;have pr49a:=Ext.r d0
   have pr49b:=Ext.r b0
   refine rg0 w0 ?_
   refine' tkd 0 ?_;refine' tkd 2 ?_;refine' tkd 4 ?_;refine' tkL 6 ?_;refine G8a 7 (fun u w''=>∃ g,u = .slice (some ⟨g,0,none⟩) 1 1/\Ext w0 w''/\SliceAt w'' (some ⟨g,0,none⟩) 1 [(m:Int)]) rfl (by kernel_rfl) (by rfl) ?run7 ?vs7 ?next7
   case run7=>
    intro w' hE hS;refine .inr ⟨.slice (some ⟨w'.heap.size,0,none⟩) 1 1,w'.alloc (.cells #[.int .i64 (m:Int)] 3), ?_,⟨_,rfl,((Ext.drew (Ext.refl w0)).trans hE).trans (Ext.alloc (Ext.refl _) _),SliceAt.one w' m HVR.1 HVR.2 _⟩⟩;go_simp
   case vs7=>
    rintro u w'' ⟨g,_,hE,_⟩ W hW;exact hE.trans hW
   case next7=>
    rintro u w1 ⟨g,rfl,hE1,hS1⟩;have WI:=hZ (fun W (hE:Ext w1 W)=>K1a (least:=0) (most:=(n1:Int)-1) (hS1.ext hE) e2);have d1:=hE1.q d0;have f1:=hE1.q b0;have f2:=hE1.q b1;have gs1:=hE1.q gs;have zd1:=cell_lt d1;have zb1:=cell_lt f1;have zs1:=cell_lt gs1;refine layy ?_;refine' tkR 8 (v:=.bool true) rfl (Or.inr ⟨by rfl,165,_, ?hx8_1432, ?hy8_1432⟩) ?rest8_1432
    case hx8_1432=>(intro w hSw;go_simp;try with_reducible rfl)
    case hy8_1432=>exact fun w hE=>(WI.out _ hE).mono (fun _ _ h=>⟨h.1,h.2,Ext.trans hE h.2⟩)
    refine layy ?_;refine' tkL 9 ?_ (hy:=by intro w hSw;(have d1':=hSw.q d1;have b1':=hSw.q f1;have b2':=hSw.q f2;have gs':=hSw.q gs1);go_simp;try with_reducible rfl);refine' tkL 10 ?_ (hy:=by intro w hSw;(have d1':=hSw.q d1;have b1':=hSw.q f1;have b2':=hSw.q f2;have gs':=hSw.q gs1);go_simp;try with_reducible rfl);refine' tkL 11 ?_ (hy:=by intro w hSw;(have d1':=hSw.q d1;have b1':=hSw.q f1;have b2':=hSw.q f2;have gs':=hSw.q gs1);go_simp;try with_reducible rfl);refine' tkL 12 ?_ (hy:=by intro w hSw;(have d1':=hSw.q d1;have b1':=hSw.q f1;have b2':=hSw.q f2;have gs':=hSw.q gs1);go_simp;try with_reducible rfl);refine' tkL 13 ?_ (hy:=by intro w hSw;(have d1':=hSw.q d1;have b1':=hSw.q f1;have b2':=hSw.q f2;have gs':=hSw.q gs1);go_simp;try with_reducible rfl);refine' tkL 14 ?_ (hy:=by intro w hSw;(have d1':=hSw.q d1;have b1':=hSw.q f1;have b2':=hSw.q f2;have gs':=hSw.q gs1);go_simp;try with_reducible rfl);refine' tkL 15 ?_ (hy:=by intro w hSw;(have d1':=hSw.q d1;have b1':=hSw.q f1;have b2':=hSw.q f2;have gs':=hSw.q gs1);go_simp;try with_reducible rfl);refine' tkL 16 ?_ (hy:=by intro w hSw;(have d1':=hSw.q d1;have b1':=hSw.q f1;have b2':=hSw.q f2;have gs':=hSw.q gs1);go_simp;try with_reducible rfl);refine' tkL 17 ?_ (hy:=by intro w hSw;(have d1':=hSw.q d1;have b1':=hSw.q f1;have b2':=hSw.q f2;have gs':=hSw.q gs1);go_simp;try with_reducible rfl);refine' tkL 18 ?_ (hy:=by intro w hSw;(have d1':=hSw.q d1;have b1':=hSw.q f1;have b2':=hSw.q f2;have gs':=hSw.q gs1);go_simp;try with_reducible rfl);refine' tkL 19 ?_ (hy:=by intro w hSw;(have d1':=hSw.q d1;have b1':=hSw.q f1;have b2':=hSw.q f2;have gs':=hSw.q gs1);go_simp;try with_reducible rfl);refine' tkL 20 ?_ (hy:=by intro w hSw;(have d1':=hSw.q d1;have b1':=hSw.q f1;have b2':=hSw.q f2;have gs':=hSw.q gs1);go_simp;try with_reducible rfl);refine' tkL 21 ?_ (hy:=by intro w hSw;(have d1':=hSw.q d1;have b1':=hSw.q f1;have b2':=hSw.q f2;have gs':=hSw.q gs1);go_simp;try with_reducible rfl);refine' tkL 22 ?_ (hy:=by intro w hSw;(have d1':=hSw.q d1;have b1':=hSw.q f1;have b2':=hSw.q f2;have gs':=hSw.q gs1);go_simp;try with_reducible rfl);refine A0a (by kernel_rfl) ?_ _;intro x1 _ Ex1;clear pr49a pr49b
    go_wp2_with fail
    go_returns;exact ⟨rfl,(E0.out.trans hE1).trans Ex1⟩
open Go.RowKit
theorem u6a {N B:Nat->Bool}:∀ n,(∀ i,i < n->(∀ j,j < i->B j=true)->N i=B i)->(List.range n).all N=(List.range n).all B
 | 0,_=>rfl
 | n+1,h=>by
  have ih:=u6a n (fun i hi=>h i (by omega));rw [List.range_succ,List.all_append,List.all_append,ih]
  cases hb:(List.range n).all B with
  | false=>simp
  | true=>
   rw [A7c] at hb;have:=h n (by omega) (fun j hj=>hb j (D8c.2 hj));simp [this]
theorem q0a (h:Hp.FrOk z o) {v:Int} (h0:0<=v) (h1:v < z.length):0<=Hp.index o v/\Hp.index o v < o.length:=by
 have hm:v ∈ o:=by
  have:=h.perm v.toNat (by omega)
  rwa [Int.toNat_of_nonneg h0] at this
 unfold Hp.index
 cases hf:o.findIdx? (· == v) with
 | none=>
  have:=q7b.1 hf v hm;simp at this
 | some i=>
  have:=(p4b.1 hf).1;exact ⟨by simp,by simp;omega⟩
theorem h6b {d:Nd.Dia} (h:Hp.within 0 ((d.sizes.length:Int)-1) (d.nodeAt i).1=true):0<=(d.nodeAt i).1/\(d.nodeAt i).1 < d.sizes.length:=by
 simp only [Hp.within,B8c,A1c] at h
 omega
theorem i6a {d:Nd.Dia} (h:G5a d i=true):0<=(d.nodeAt i).1/\(d.nodeAt i).1 < d.sizes.length:=by
 unfold G5a at h
 simp only [B8c] at h
 exact h6b h.1.1
theorem G6b {d:Nd.Dia} (hf:Hp.FrOk d.sizes d.order) (h:0<=(d.nodeAt i).1/\(d.nodeAt i).1 < d.sizes.length):O4a d (i:Int)=Hp.index d.order (d.nodeAt i).1:=by
 have:=q0a hf h.1 h.2
 unfold O4a
 rw [H4c (by omega),z5b,H4c (by omega)]
theorem o0b {d:Nd.Dia} (hf:Hp.FrOk d.sizes d.order) (hi:0<=(d.nodeAt i).1/\(d.nodeAt i).1 < d.sizes.length) (hj:∀ j,j < i->G5a d j=true) (k:Int):kidN d k i (Hp.index d.order (d.nodeAt i).1)=kidB d i k:=by
 have hin:=q0a hf hi.1 hi.2
 unfold kidN kidB refB
 rw [G6b hf hi]
 by_cases hk:k < 0
 . rw [H5c hk,H4c (by omega)];have:O4a d k=d.order.length:=by unfold O4a;rw [H5c hk]
   rw [this,E5c (show ¬ (d.order.length:Int)<=Hp.index d.order (d.nodeAt i).1 by omega),F4c]
 rw [H4c hk,H5c (by omega)]
 by_cases hki:k < (i:Int)
 . obtain ⟨m,rfl⟩:∃ m:Nat,k=(m:Int):=⟨k.toNat,by omega⟩
   have hv:=i6a (hj m (by omega));rw [G6b hf hv,z5b]
   congr 1
   by_cases hlt:Hp.index d.order (d.nodeAt m).1 > Hp.index d.order (d.nodeAt i).1
   . rw [E5c hlt,dT]
   rw [D7c hlt,dF]
 rw [D7c hki,E3c,E3c]
theorem P7b {d:Nd.Dia} (hf:Hp.FrOk d.sizes d.order) (hj:∀ j,j < i->G5a d j=true):N6a d i=G5a d i:=by
 unfold N6a G5a
 cases hw:Hp.within 0 ((d.sizes.length:Int)-1) (d.nodeAt i).1 with
 | false=>rfl
 | true=>
  have:=funext fun k=>o0b hf (h6b hw) hj k
  rw [this]
theorem S2b {d:Nd.Dia} (hf:Hp.FrOk d.sizes d.order):(d.ends.all F0a && (List.range d.nodes.length).all (N6a d) && kidN d d.root d.nodes.length (-1))=I2a d:=by
 unfold I2a
 rw [u6a d.nodes.length (fun i _ hj=>P7b hf hj)]
 cases hb:(List.range d.nodes.length).all (G5a d) with
 | false=>simp
 | true=>
  congr 1
  rw [A7c] at hb;unfold kidN refB
  by_cases hk:d.root < 0
  . rw [H5c hk,H4c (by omega)]
  rw [H4c hk,H5c (by omega)]
  by_cases hlt:d.root < (d.nodes.length:Int)
  . have hv:=i6a (hb d.root.toNat (D8c.2 (by omega)));have:=q0a hf hv.1 hv.2;rw [E5c hlt,E5c (show Hp.index d.order (d.nodeAt d.root.toNat).1 > -1 by omega)];rfl
  rw [D7c hlt,E3c]
theorem vEqual {d:Nat} {E F:List (Int × Int)} (h:RdN w 2 p c (E.map endC)) (k:RdN w 2 q d (F.map endC)) :
    Calls prog 193 #[.slice p E.length c,.slice q F.length d] w (Rt w (.bool (decide (E=F)))):=by
  have hle:=h.le;have hcap:=h.cap;have hle':=k.le;have hcap':=k.cap;rw [C6c] at hle hle'
  by_cases hne:E.length=F.length
  case neg=>
   have e:decide (E=F)=false:=by
    apply D7c;intro e;exact hne (by rw [e])
   rw [e];clear h k e;generalize E.length=a at *;generalize F.length=b at *;have e1:((a:Int) == (b:Int))=false:=by simpa using (by omega:¬ (a:Int)=b)
   go_enter func193,ntmps193;go_wp2;go_returns;exact ⟨rfl,exx⟩
  case pos=>
   have H:=hZ h;have K:=hZ k;clear h k;rw [<- hne];have HM:=hZ hne;clear hne hle';generalize hL:E.length=n at hle ⊢;have HL:=hZ hL;clear hL;have mixed:prog.follows .mixedOrders=true:=by kernel_rfl
   go_enter func193,ntmps193;go_wp2
   go_loopg [13] n (fun g i wr=>∃ j:Nat,j<=n/\n-j<=g/\i = .int .i64 j/\Aside (Ext w wr)/\Aside (∀ i,i < j->E[i]? = F[i]?))
   case atStart=>exact ⟨0,G9c _,by omega,rfl,Ext.refl w,fun m hm=>absurd hm (D0c _)⟩
   case round=>
    obtain ⟨j,hj,hg,rfl,HE,HA⟩:=hrel
    by_cases hlt:j < n
    . obtain ⟨f,hf⟩:=A5a (E:=E) (j:=j) (by rw [HL.out];exact hlt);obtain ⟨f',hf'⟩:=A5a (E:=F) (j:=j) (by rw [<- HM.out,HL.out];exact hlt);obtain ⟨b,o,rfl,hb,hc⟩:=(H.out.ext HE.out).L0a (by rw [HL.out];omega);obtain ⟨b',o',rfl,hb',hc'⟩:=(K.out.ext HE.out).L0a (by rw [<- HM.out,HL.out];omega);obtain ⟨g1,g2⟩:=hc j f hf;obtain ⟨k1,k2⟩:=hc' j f' hf';have EQ:=fun u=>g6b f.1 f.2 f'.1 f'.2 u
      have HF:=hZ hf;have HF':=hZ hf';clear hf hc hf' hc';obtain ⟨f1,f2⟩:=f;obtain ⟨f1',f2'⟩:=f'
      by_cases he:(f1,f2)=(f1',f2')
      . simp only [he,decide_true] at EQ
        cases he
        go_wp2_with fail
        go_region_o
        go_wp2
        go_roundg (n-(j+1))
        case measure=>omega
        case rel=>
         refine ⟨j+1,by omega,by omega,by go_num,(show Aside _ from HE.out.drew),(show Aside _ from fun i hi=>?_)⟩
         by_cases e:i=j
         . subst e;rw [HF.out,HF'.out]
         exact HA.out i (by omega)
      simp only [he,decide_false] at EQ
      go_wp2_with fail
      go_region_o
      go_wp2;go_returns;refine ⟨?_,HE.out.drew⟩;have e:decide (E=F)=false:=by
       apply D7c;rintro rfl;have:=HF.out;rw [HF'.out] at this
       cases this
       exact he rfl
      rw [e];rfl
    have:j=n:=by omega
    subst this;go_wp2;go_returns;refine ⟨?_,HE.out⟩;have e:decide (E=F)=true:=E5c (W2a HM.out (by rw [HL.out];exact HA.out));rw [e];rfl
theorem o2b {e':Nat} {v v':Int} {l':List Int} (h:SliceAt w p c l) (k:SliceAt w q e' l') :
    Calls prog 192 #[.agg #[.int .i64 v,.slice p l.length c],.agg #[.int .i64 v',.slice q l'.length e']] w (Rt w (.bool (decide ((v,l)=(v',l'))))):=by
  obtain ⟨bs,hbs⟩:∃ b,decide (l=l')=b:=⟨_,rfl⟩
  have SM:=hZ (fun W (hE:Ext w W)=>(by have:=m2a (h.ext hE) (k.ext hE);rw [hbs] at this;exact this:Calls prog 101 #[.slice p l.length c,.slice q l'.length e'] W fun e w'=>e = .returned (.bool bs)/\Ext W w'))
  by_cases hv:v=v'
  . subst hv;have e:decide ((v,l)=(v,l'))=bs:=by
     rw [<- hbs]
     by_cases hl:l=l'
     . subst hl;simp
     rw [D7c hl,D7c (fun e=>hl (Prod.mk.inj e).2)]
    rw [e];clear e hbs h k;generalize l.length=n1 at *;generalize l'.length=n2 at *;have t0:(v == v)=true:=by simp
    go_enter func192,ntmps192
    go_wp2_with (go_at_call 101;refine m4_ (SM.out _ (exx)) fun w1 hb1 hc1 hf1 hs1=>?_)
    go_returns;exact ⟨rfl,exx⟩
  have t0:(v == v')=false:=by simpa using hv
  have e:decide ((v,l)=(v',l'))=false:=D7c (fun e=>hv (Prod.mk.inj e).1);rw [e];clear e hbs h k;generalize l.length=n1 at *;generalize l'.length=n2 at *;go_enter func192,ntmps192
  go_wp2_with fail
  go_returns;exact ⟨rfl,exx⟩
structure NdRd (w:World) (p:Option Addr) (c:Nat) (K:List (Option Addr × Nat)) (N:List (Int × List Int)):Prop where
 n:RdN w 2 p c (List.zipWith S4a N K)
 kl:K.length=N.length
 ks:∀ (j:Nat) (q:Int × List Int) (k:Option Addr × Nat),N[j]? = some q->K[j]? = some k->SliceAt w k.1 k.2 q.2
theorem DgRd.nd {L:DgL} {E:List (Int × Int)} {N:List (Int × List Int)} (h:DgRd w L z o E N):NdRd w L.pn L.cn L.K N:=⟨h.n,h.kl,h.ks⟩
theorem NdRd.ext {K:List (Option Addr × Nat)} {N:List (Int × List Int)} (h:NdRd w p c K N) (k:Ext w w'):NdRd w' p c K N:=⟨h.n.ext k,h.kl,fun j q kk h1 h2=>(h.ks j q kk h1 h2).ext k⟩
theorem NdRd.cells {K:List (Option Addr × Nat)} {N:List (Int × List Int)} (h:NdRd w p c K N) (h0:0 < N.length):∃ b o,p=some ⟨b,o,none⟩/\b < w.heap.size /\
    ∀ (j:Nat) (q:Int × List Int) (k:Option Addr × Nat),N[j]? = some q->K[j]? = some k->w.cell? ⟨b,o+j * 2,none⟩=some (.int .i64 q.1)/\w.cell? ⟨b,o+j * 2+1,none⟩=some (.slice k.1 q.2.length k.2):=by
  obtain ⟨b,o',e,hb,hc⟩:=h.n.cells (by rw [A7a h.kl];exact h0);refine ⟨b,o',e,hb,fun j q k hq hk=>⟨?_, ?_⟩⟩
  . exact hc j _ 0 _ (M1a hq hk) rfl
  exact hc j _ 1 _ (M1a hq hk) rfl
theorem M1b {e':Nat} {K M:List (Option Addr × Nat)} {N N':List (Int × List Int)} (h:NdRd w p c K N) (k:NdRd w q e' M N') :
    Calls prog 194 #[.slice p N.length c,.slice q N'.length e',.func (.func 192) #[] #[]] w (Rt w (.bool (decide (N=N')))):=by
  have l4:=h.n.le;have c4:=h.n.cap;have l4':=k.n.le;have c4':=k.n.cap;rw [A7a h.kl] at l4;rw [A7a k.kl] at l4'
  by_cases hne:N.length=N'.length
  case neg=>
   have e:decide (N=N')=false:=D7c fun e=>hne (by rw [e])
   rw [e];clear h k e;generalize N.length=a at *;generalize N'.length=b at *;have e1:((a:Int) != (b:Int))=true:=by simpa using (by omega:¬ (a:Int)=b)
   go_enter func194,ntmps194;go_wp2;go_returns;exact ⟨rfl,exx⟩
  case pos=>
   have H:=hZ h;have KK:=hZ k;have HK:=hZ h.kl;have HM:=hZ k.kl;have HN:=hZ hne;have eg:∀ args w,(callFunc 192 args).run prog w = .ok (.enter 192 args) w:=enters_of func192 (by kernel_rfl) rfl
   clear h k;rw [<- hne] at l4' ⊢;clear hne;generalize hL:N.length=n at *;have HL:=hZ hL;clear hL;generalize hres:decide (N=N')=res;have HRES:=hZ hres;clear hres;go_enter func194,ntmps194
   go_wp2_with fail
   go_loopg [17] n (fun gg i wr=>∃ j:Nat,j<=n/\n-j<=gg/\i = .int .i64 j/\Aside (Ext w wr)/\Aside (∀ i,i < j->N[i]? = N'[i]?))
   case atStart=>exact ⟨0,G9c _,by omega,rfl,(show Aside _ from Ext.refl w),(show Aside _ from fun m hm=>absurd hm (D0c _))⟩
   case round=>
    obtain ⟨j,hj,hg,rfl,HE,HA⟩:=hrel
    by_cases hlt:j < n
    . obtain ⟨f,hf⟩:=A5a (E:=N) (j:=j) (by rw [HL.out];exact hlt);obtain ⟨f',hf'⟩:=A5a (E:=N') (j:=j) (by rw [<- HN.out];exact hlt);obtain ⟨kq,hq⟩:=A5a (E:=K) (j:=j) (by rw [HK.out];exact hlt);obtain ⟨kq',hq'⟩:=A5a (E:=M) (j:=j) (by rw [HM.out,<- HN.out];exact hlt);obtain ⟨b,o,rfl,hb,hc⟩:=(H.out.ext HE.out).cells (by rw [HL.out];omega);obtain ⟨b',o',rfl,hb',hc'⟩:=(KK.out.ext HE.out).cells (by rw [<- HN.out];omega);obtain ⟨g1,g2⟩:=hc j f kq hf hq;obtain ⟨k1,k2⟩:=hc' j f' kq' hf' hq';have tk:decide ((j:Int) < (n:Int))=true:=dT;have CA:=hZ (fun W (hE:Ext wr W)=>o2b (v:=f.1) (v':=f'.1) (((H.out.ext HE.out).ks j f kq hf hq).ext hE) (((KK.out.ext HE.out).ks j f' kq' hf' hq').ext hE));have HF:=hZ hf;have HF':=hZ hf';clear hf hc hf' hc' hq hq'
      by_cases he:f=f'
      . have e1:decide ((f.1,f.2)=(f'.1,f'.2))=true:=E5c (by rw [he]);rw [e1] at CA;have HEE:=hZ he;clear he e1
        go_wp2_with (go_at_fn 192;refine (Calls.mono (CA.out _ (exx)) ?_);rintro e w' ⟨rfl,hb9⟩)
        go_roundg (n-(j+1))
        case measure=>omega
        case rel=>
         refine ⟨j+1,by omega,by omega,by go_num,(show Aside _ from HE.out.trans (show Ext wr _ from exx)),(show Aside _ from fun i hi=>?_)⟩
         by_cases e:i=j
         . subst e;rw [HF.out,HF'.out,HEE.out]
         exact HA.out i (by omega)
      have e1:decide ((f.1,f.2)=(f'.1,f'.2))=false:=D7c he;rw [e1] at CA;have er:res=false:=by
       rw [<- HRES.out];apply D7c;rintro rfl;have:=HF.out;rw [HF'.out] at this
       cases this
       exact he rfl
      subst er;clear he e1
      go_wp2_with (go_at_fn 192;refine (Calls.mono (CA.out _ (exx)) ?_);rintro e w' ⟨rfl,hb9⟩)
      go_returns;exact ⟨rfl,HE.out.trans (show Ext wr _ from exx)⟩
    have tk:decide ((j:Int) < (n:Int))=false:=dF;have hjn:j=n:=by omega
    have er:res=true:=by
     rw [<- HRES.out];exact E5c (W2a (by rw [HL.out];exact HN.out) (by rw [HL.out,<- hjn];exact HA.out))
    subst er;clear hjn
    go_wp2_with fail
    go_returns;exact ⟨rfl,HE.out⟩
theorem nEqual {L M:DgL} {d e:Nd.Dia} {q1 q2 q3 q4:Bool} (h:DgRd w L d.sizes d.order d.ends d.nodes) (k:DgRd w M e.sizes e.order e.ends e.nodes) (h1:decide (d.sizes=e.sizes)=q1) (h2:decide (d.order=e.order)=q2) (h3:decide (d.ends=e.ends)=q3) (h4:decide (d.nodes=e.nodes)=q4) :
    Calls prog 180 #[dgV L d.sizes.length d.order.length d.ends.length d.nodes.length d.root,dgV M e.sizes.length e.order.length e.ends.length e.nodes.length e.root] w fun r w'=>r = .returned (.bool (q1 && (q2 && (q3 && (q4 && (d.root == e.root))))))/\Ext w w':=by
  have Z':=hZ (fun W (hE:Ext w W)=>H2a h1 (h.s.ext hE) (k.s.ext hE));have O':=hZ (fun W (hE:Ext w W)=>H2a h2 (h.o.ext hE) (k.o.ext hE));have V':=hZ (fun W (hE:Ext w W)=>by have:=vEqual (h.e.ext hE) (k.e.ext hE);rw [h3] at this;exact this);have B':=hZ (fun W (hE:Ext w W)=>by have:=M1b (h.nd.ext hE) (k.nd.ext hE);rw [h4] at this;exact this);unfold dgV DgL.cells;clear h k h1 h2 h3 h4;generalize d.sizes.length=n1 at *;generalize d.order.length=n2 at *;generalize d.ends.length=n3 at *;generalize d.nodes.length=n4 at *;generalize d.root=rt at *;generalize e.sizes.length=m1 at *;generalize e.order.length=m2 at *;generalize e.ends.length=m3 at *;generalize e.nodes.length=m4 at *;generalize e.root=rs at *;have mixed:prog.follows .mixedOrders=true:=by kernel_rfl
  cases q1 <;> cases q2 <;> cases q3 <;> cases q4 <;> (
   go_enter func180,ntmps180
   go_wp2_with (first
    | (have _t:=hb1;go_at_call 101;refine m4_ (O'.out _ (exx)) fun w2 hb2 hc2 hf2 hs2=>?_;have y2:w.heap.size < w2.heap.size:=(by have h:=hb2.le;(try simp at h);omega);have x2:w.heap.size+1 < w2.heap.size:=(by have h:=hb2.le;(try simp at h);omega))
    | (go_at_call 101;refine m4_ (Z'.out _ (exx)) fun w1 hb1 hc1 hf1 hs1=>?_;have y1:w.heap.size < w1.heap.size:=(by have h:=hb1.le;(try simp at h);omega);have x1:w.heap.size+1 < w1.heap.size:=(by have h:=hb1.le;(try simp at h);omega))
    | (go_at_call 193;refine m4_ (V'.out _ (exx)) fun w3 hb3 hc3 hf3 hs3=>?_;have y3:w.heap.size < w3.heap.size:=(by have h:=hb3.le;(try simp at h);omega);have x3:w.heap.size+1 < w3.heap.size:=(by have h:=hb3.le;(try simp at h);omega))
    | (go_at_call 194;refine m4_ (B'.out _ (exx)) fun w4 hb4 hc4 hf4 hs4=>?_))
   go_returns;exact ⟨rfl,exx⟩)
end Go.Proofs.YtdokmmhjmclmnaaGreat
