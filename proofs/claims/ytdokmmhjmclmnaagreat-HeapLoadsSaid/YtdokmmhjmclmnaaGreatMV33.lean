/-
  Part 33 of a proof: LL5.
-/
import Derived.Test.YtdokmmhjmclmnaaGreatMV28
import Derived.Test.YtdokmmhjmclmnaaGreatMV32
set_option linter.unusedSimpArgs false
set_option linter.unusedVariables false
set_option linter.unusedSectionVars false
set_option linter.unnecessarySimpa false
namespace Go.Proofs.YtdokmmhjmclmnaaGreat
variable {W' w w' w0 wb:World} {B a b base c cap ce cn f g gb i j k lb m n oc s sc:Nat} {choice t x:Int} {G W fs l o xs z:List Int} {L:List Hp.Tl} {r:Rd} {S S':Hp.Hs} {A N T:List Nat} {M:List (Nat × Int)} {op p pe pn q sp:Option Addr} {d:Hd} {acts:List Hp.Act'}
open Go.RowKit Go.Maps
theorem foldl_prod_:∀ (l:List Int) (a:Int),l.foldl (· * ·) a=a * prod l
 | [],a=>by simp [prod]
 | b :: r,a=>by
  rw [List.foldl_cons,foldl_prod_ r];show a * b * prod r=a * (b * prod r);rw [Int.mul_assoc]
theorem frame_facts {n:Int} (h:Hp.newErr z o n=0):Hp.FrOk z o/\Hp.prodM z=prod z/\prod z<=2000/\Nd.wt z o<=14000/\32<=n/\n<=40000:=by
 unfold Hp.newErr at h
 by_cases hf:Hp.frameErr z o=0
 . rw [if_neg (by simpa using hf)] at h;obtain ⟨fr,hp⟩:=Hp.frameErr_ok hf;have e1:z.foldl (· * ·) 1=prod z:=by rw [foldl_prod_,Int.one_mul]
   rw [e1] at hp;have e2:=(Hp.prodM_is fun s hs=>fr.pos s hs).1;rw [e1] at e2;have hw:Hp.within 32 40000 n=true:=by
    by_cases hw:Hp.within 32 40000 n=true
    . exact hw
    rw [if_neg hw] at h
    cases h
   have hw2:32<=n/\n<=40000:=by simpa [Hp.within] using hw
   exact ⟨fr,by omega,hp,wt_frame hf,hw2.1,hw2.2⟩
 rw [if_pos (by simpa using hf)] at h
 exact absurd h hf
set_option maxRecDepth 100000 in
set_option maxHeartbeats 8000000 in
theorem loads_thick {pa pw:Option Addr} {ca cw:Nat} {n:Int} (h:SAt w sp sc op oc pa ca z o acts) (ht:Hp.thinB z o n acts=false \/ 400 < W.length) :
    Calls Tryz.prog 3 #[.agg #[.slice sp z.length sc,.slice op o.length oc,.int .i64 n,.slice pa acts.length ca],.slice pw W.length cw,.int .i64 x] w fun e w'=>e = .returned (.bool true)/\Ext w w':=by
  have E0:Ext w (w.alloc (.cells #[.slice sp z.length sc,.slice op o.length oc,.int .i64 n,.slice pa acts.length ca] 25)):=Ext.alloc (Ext.refl _) _;have TH:=hZ (lThin (n:=n) (h.ext E0))
  cases hb:Hp.thinB z o n acts with
  | false=>
   rw [hb] at TH;clear h ht hb;go_enter Tryz.func3,Tryz.ntmps3
   go_wp2_with (first
    | (go_at_call 14;refine TH.out.mono ?_;rintro e w1 ⟨rfl,hE1⟩)
    | (go_at_call 15;refine (awake_any _).mono ?_;rintro e w2 ⟨rfl,hE2⟩))
   go_returns;exact ⟨rfl,E0.trans (hE1.trans hE2)⟩
  | true=>
   rw [hb] at TH ht;have hl:400 < W.length:=by
    rcases ht with ht | ht
    . cases ht
    exact ht
   have q0:decide ((W.length:Int) > 400)=true:=dT;have q1:decide (400 < (W.length:Int))=true:=dT;have q2:decide (400 < W.length)=true:=dT;clear h ht hb hl;go_enter Tryz.func3,Tryz.ntmps3
   go_wp2_with (first
    | (go_at_call 14;refine TH.out.mono ?_;rintro e w1 ⟨rfl,hE1⟩)
    | (go_at_call 15;refine (awake_any _).mono ?_;rintro e w2 ⟨rfl,hE2⟩))
   go_returns;exact ⟨rfl,E0.trans (hE1.trans hE2)⟩
theorem heapLoads {pa pw:Option Addr} {ca cw:Nat} {n:Int} (h:SAt w sp sc op oc pa ca z o acts) (hW:SliceAt w pw cw W) (hWn:pw=none->cw=0) (hx : -9223372036854775808<=x/\x<=9223372036854775807) :
    Calls Tryz.prog 3 #[.agg #[.slice sp z.length sc,.slice op o.length oc,.int .i64 n,.slice pa acts.length ca],.slice pw W.length cw,.int .i64 x] w fun e w'=>e = .returned (.bool true)/\Ext w w':=by
  cases ht:Hp.thinB z o n acts with
  | false=>exact loads_thick h (.inl ht)
  | true=>
   by_cases hl:400 < W.length
   . exact loads_thick h (.inr hl)
   have hl:W.length<=400:=by omega
   obtain ⟨zl,ol⟩:=Hp.thin_lens ht;obtain ⟨fe,hfe⟩:∃ fe,Hp.newErr z o W.length=fe:=⟨_,rfl⟩
   by_cases hf0:fe=0
   . subst hf0;obtain ⟨fr,hpm,hpr,hwt,l1,l2⟩:=frame_facts hfe
     by_cases hwf:∃ L ch,Hp.Wf ⟨z,o,W,Hp.adsOf L⟩ 9223372036854775807 L ch
     . obtain ⟨L,ch,hw⟩:=hwf;obtain ⟨T,hT,_⟩:=Hp.live_le hw
       by_cases hb:x ∈ cellsI ⟨z,o,W,Hp.adsOf L⟩
       . have hb':(cellsI ⟨z,o,W,Hp.adsOf L⟩).contains x=true:=by simpa using hb
         obtain ⟨a,ha,rfl⟩:=cellsI_mem.1 hb;obtain ⟨xr,D,hD,_⟩:=Hp.diagram_total hw ha;have DGI:LDiagIs ⟨z,o,W,Hp.adsOf L⟩ (a:Int) z o D.ends D.nodes xr 0:=fun w1 d hA=>(Diagram_any hA hw ha hD).mono fun e w' ⟨Lg,he,h1,h2,_⟩=>⟨Lg,he,h1,h2⟩
         have RDI:RDiagIs ⟨z,o,W,Hp.adsOf L⟩ (a:Int) z o D.ends D.nodes xr:=fun w1 r hR hp1 hp2=>rDiagram hR hw ha hD hp1 hp2 hpm hpr hwt
         cases he:Hp.isEnd (Hp.ow W a) with
         | true=>
          have tt:20<=Hp.ow W a:=by
           simp only [Hp.isEnd,Hp.within,Bool.and_eq_true,decide_eq_true_eq] at he;exact he.1
          refine loads_main h hW hWn ht hl hx hw hfe hT (bv:=-1) (bks:=[]) (vf:=Hp.ow W a-20) (vn:=Hp.ow W (a+4)) (ie:=0) ?_ DGI hb' (.inr ⟨rfl,rfl, ?_,RDI⟩)
          . intro w1 d hA;have:=At_end_f (f:=(Hp.ow W a-20).toNat) hA hw ha (by show Hp.ow W a=20+(((Hp.ow W a-20).toNat:Nat):Int);omega) he;rw [Int.toNat_of_nonneg (by omega)] at this;exact this.mono fun e w' ⟨h1,h2⟩=>⟨none,0,h1,⟨Nat.le_refl _,Nat.zero_le _,by simp,fun h=>by simp at h⟩,h2⟩
          intro w1 r hR;exact (rAt_end hR hw ha he).mono fun e w' ⟨h1,h2⟩=>⟨none,0,h1,⟨Nat.le_refl _,Nat.zero_le _,by simp,fun h=>by simp at h⟩,h2⟩
         | false=>
          refine loads_main h hW hWn ht hl hx hw hfe hT (bv:=Hp.ow W a-1) (bks:=Hp.fz (Hp.ow W) z a) (vf:=0) (vn:=0) (ie:=0) ?_ DGI hb' (.inr ⟨rfl,rfl, ?_,RDI⟩)
          . intro w1 d hA;exact (At_node_f hA hw ha he).mono fun e w' ⟨g,c,h1,h2,h3⟩=>⟨_,c,h1,h2.at_,h3⟩
          intro w1 r hR;exact rAt_node hR hw ha he
       have hb':(cellsI ⟨z,o,W,Hp.adsOf L⟩).contains x=false:=by simpa using hb
       have hh:Hp.Hs.has ⟨z,o,W,Hp.adsOf L⟩ x=false:=by
        cases hh:Hp.Hs.has ⟨z,o,W,Hp.adsOf L⟩ x with
        | false=>rfl
        | true=>
         obtain ⟨a,rfl,ha⟩:=has_nat hh;exact absurd (cellsI_mem.2 ⟨a,ha,rfl⟩) hb
       refine loads_main h hW hWn ht hl hx hw hfe hT (bv:=0) (bks:=[]) (vf:=0) (vn:=0) (ie:=7) (zz:=[]) (oo:=[]) (E:=[]) (N:=[]) (rt:=0) ?_ ?_ hb' (.inl ⟨rfl,rfl,rfl,rfl,rfl,rfl,rfl,rfl,rfl,rfl,rfl⟩)
       . intro w1 d hA;exact (At_no hA hh hx.1 hx.2).mono fun e w' ⟨h1,h2⟩=>⟨none,0,h1,⟨Nat.le_refl _,Nat.zero_le _,by simp,fun h=>by simp at h⟩,h2⟩
       intro w1 d hA;exact (Diagram_no hA hh hx.1 hx.2).mono fun e w' ⟨h1,h2⟩=>⟨⟨none,0,none,0,none,0,none,0,[]⟩,h1,⟨⟨Nat.le_refl _,Nat.zero_le _,by simp,fun h=>by simp at h⟩,⟨Nat.le_refl _,Nat.zero_le _,by simp,fun h=>by simp at h⟩,⟨Nat.le_refl _,Nat.zero_le _,fun h=>by simp at h⟩,⟨Nat.le_refl _,Nat.zero_le _,fun h=>by simp at h⟩,rfl,fun j q k h=>by simp at h⟩,h2⟩
     refine loads_bad (fe:=0) (e0:=4) h hW hWn ht hl hfe (by decide) (fun w1 p1 p2 p3 c1 c2 c3 hE s1 k1 s2 k2 s3 k3=>?_) (.inr ⟨rfl,rfl,fun w1 hE=>?_⟩)
     . obtain ⟨b,o',rfl,_,_⟩:=s3.cells (by omega);exact Load_no (S:=⟨z,o,W,[]⟩) s1 s2 s3 k1 k2 fr (by show 20<=W.length;omega) (by show W.length<=100000;omega) (fun T L ch hw=>hwf ⟨L,ch,by have e:=hw.taken;simp only at e;subst e;exact hw⟩) hfe
     obtain ⟨b,o',rfl,_,_⟩:=hW.cells (by omega);refine (rCheck_any (S:=⟨z,o,W,[]⟩) (h.sizes.ext hE) (h.order.ext hE) (hW.ext hE) fr (by show 20<=W.length;omega) (by show W.length<=100000;omega)).mono ?_;rintro e w' ⟨b,rfl,h1,h2⟩
     cases b with
     | false=>exact ⟨rfl,h1⟩
     | true=>
      obtain ⟨L,ch,hw⟩:=h2 rfl;exact absurd ⟨L,ch,hw⟩ hwf
   refine loads_bad (fe:=fe) (e0:=fe) h hW hWn ht hl hfe hf0 (fun w1 p1 p2 p3 c1 c2 c3 hE s1 k1 s2 k2 s3 k3=>?_) (.inl ⟨hf0,rfl⟩);have:=Load_err (pw:=p3) (nw:=W.length) (wc:=c3) s1 s2 k2 (by omega) (by rw [hfe];exact hf0);rw [hfe] at this;exact this
end Go.Proofs.YtdokmmhjmclmnaaGreat
