/-
  Part 18 of a proof: HFn54 LH1 LH2 LH3 LH4 LH5 LH6 LH7 LHO.
-/
import Derived.ChangeMaps5
import Derived.Deep.AppendLies
import Derived.Deep.Slices
import Derived.Lib.SmallJoins
import Derived.OpenShut
import Derived.ProofKit
import Derived.Test.YtdokmmhjmclmnaaGreatRows
import Derived.Test.YtdokmmhjmclmnaaGreatMK16
import Derived.Test.YtdokmmhjmclmnaaGreatMK17
set_option linter.unusedSimpArgs false
set_option linter.unusedVariables false
set_option linter.unusedSectionVars false
set_option linter.unnecessarySimpa false
namespace Go.Proofs.YtdokmmhjmclmnaaGreat
variable {W' w w' w0:World} {B a b base c ca cap f g i j k k1 k2 m n oc sb sc:Nat} {choice e t x:Int} {W fs l o z:List Int} {A T:List Nat} {op p p1 p2 pa pe pn q sp:Option Addr} {d:Hd} {S S':Hp.Hs} {r:Rd} {L:List Hp.Tl} {M:List (Nat × Int)} {s s':Hp.Sc} {acts:List Hp.Act'}
open Go.RowKit Go.Maps
theorem Row.words (h:Row w base (some ⟨g,0,none⟩) c l):WordsAt w g l/\l.length<=c/\c<=9223372036854775807:=by
 rcases h.1 with ⟨hx,⟨e,_⟩ | ⟨g',cap,cur,e,h1,hg,h2,h3,h4,h5⟩⟩
 . injection e with e1
   cases e1
 injection e with e1 e2 e3
 injection e1 with e1
 injection e1 with e1 _ _
 subst e1 e3
 rw [Nat.mul_one] at h5
 refine ⟨⟨⟨cur.toList.drop l.length, ?_⟩,h.2⟩,h2,by unfold maxLen at h3;omega⟩
 rw [<- h5,List.take_append_drop]
 exact hg
theorem load_cut {P:Program} {cd:Code} {Q:Exit->Act->World->Prop} {act:Act} {W:World} {lb hb gw gm c2 c3 c4 m2 m3:Nat} {p3:Option Addr}
    (_:act.tmps[26]? = some (.agg #[.slice p2 m2 c2,.slice p3 m3 c3,.slice (some ⟨gw,0,none⟩) n c4,.map (some gm)])) (_:act.tmps[27]? = some (.pointer (some ⟨hb,0,none⟩))) (_:act.tmps[29]? = some (.pointer (some ⟨lb,0,none⟩)))
    (h:HAt W ⟨hb,gw,gm,c4,p2,c2,p3,c3⟩ { S with taken:=[] }) (e:Ext w W) (h0:W.cell? ⟨lb,0,none⟩=some (.pointer (some ⟨hb,0,none⟩))) (h1:W.cell? ⟨lb,1,none⟩=some (.slice none 0 0)) (fz:∀ k,W.frozen? ⟨lb,k,none⟩=false)
    (ho:(w.heap.size<=hb/\w.heap.size<=gw/\w.heap.size<=gm)/\(∀ b o,p2=some ⟨b,o,none⟩->w.heap.size<=b/\b < lb)/\(∀ b o,p3=some ⟨b,o,none⟩->w.heap.size<=b/\b < lb)/\w.heap.size<=lb/\hb < lb/\gw < lb/\gm < lb)
    (k:∀ W',LdAt w W' lb ⟨hb,gw,gm,c4,p2,c2,p3,c3⟩ { S with taken:=[] } (.slice none 0 0) none 0 []->((w.heap.size<=hb/\w.heap.size<=gw/\w.heap.size<=gm)/\(∀ b o,p2=some ⟨b,o,none⟩->w.heap.size<=b) /\ ∀ b o,p3=some ⟨b,o,none⟩->w.heap.size<=b)->cd.wp P Q act W'):cd.wp P Q act W:=by
  obtain ⟨⟨o1,o2,o3⟩,o4,o5,o6,o7,o8,o9⟩:=ho
  refine k W
   { toHAt:=h
     ext0:=e
     h0:=h0
     h1:=h1
     fz:=fz
     r:=Row.nil _ _
     lb0:=o6
     own0:=fun b hb=>by
      simp only [Hd.own,List.mem_cons,List.not_mem_nil,or_false] at hb;omega
     lbn:=fun hb=>by
      simp only [Hd.own,List.mem_cons,List.not_mem_nil,or_false] at hb;omega
     n:=fun b o e=>by cases e
     spn:=fun b o e=>⟨by have:=(o4 b o e).2;omega,fun _ e=>by cases e⟩
     opn:=fun b o e=>⟨by have:=(o5 b o e).2;omega,fun _ e=>by cases e⟩ } ⟨⟨o1,o2,o3⟩,fun b o e=>(o4 b o e).1,fun b o e=>(o5 b o e).1⟩
set_option maxRecDepth 100000 in
set_option maxHeartbeats 4000000 in
theorem Load_any {d gb go wc:Nat} {ch:Nat->List Nat} (hs:SliceAt w p c S.sizes) (ho:SliceAt w q d S.order) (hw':SliceAt w (some ⟨gb,go,none⟩) wc S.words) (hp:0 < S.sizes.length \/ p=none) (hq:0 < S.order.length \/ q=none) (hw:Hp.Wf S B L ch) (he:Hp.newErr S.sizes S.order S.words.length=0) :
    Calls Tryz.prog 16 #[.slice p S.sizes.length c,.slice q S.order.length d,.slice (some ⟨gb,go,none⟩) S.words.length wc] w (NewPost w S):=by
  have few:=hw.fr.few;have hol:S.order.length<=1000000:=by have:=hw.fr.len;omega
  have hlo:=hw.lo;have hhi:=hw.hi;have hgl:=Hp.gapsOf_len hw.parts.lay;have HC:=hZ (he ▸ hcheck_any (words:=(S.words.length:Int)) hs ho hq hol);have HS:=hZ hs;have HO:=hZ ho;have HW:=hZ hw';have HF:=hZ hw;clear hs ho he hw' hw;have mixed:Tryz.prog.follows .mixedOrders=true:=by kernel_rfl
  have hmm:=@run_makeMap Tryz.prog;go_enter Tryz.func16,Tryz.ntmps16;go_upto_region 4 with (go_at_call 59;refine (HC.out).mono ?_;rintro e w1 ⟨rfl,hb1⟩;obtain ⟨hc1,hf1,hs1⟩:=hb1.cells)
  clear hc1 hf1 hs1
  go_upto_region 5 with (first
   | (go_at_call_of 60 (Value.slice p S.sizes.length c);refine (sClone_any (HS.out.ext (exx)) hp (by omega)).mono ?_;rintro e w2 ⟨p2,c2,rfl,hR2,hb2,hg2⟩)
   | (go_at_call_of 60 (Value.slice q S.order.length d);refine (sClone_any (HO.out.ext (exx)) hq hol).mono ?_;rintro e w3 ⟨p3,c3,rfl,hR3,hb3,hg3⟩)
   | (go_at_call 60;refine (sClone_any (HW.out.ext (exx)) (.inl (by omega)) (by omega)).mono ?_;rintro e w4 ⟨p4,c4,rfl,hR4,hb4,hg4⟩;obtain ⟨g4,rfl⟩:=hg4 (by omega)))
  have q1:=hb1.le;have q2:=hb2.le;have q3:=hb3.le;have q4:=hb4.le
  (try simp at q2)
  (try simp at q3)
  (try simp at q4)
  have r4:=hR4.far rfl
  (try simp at r4)
  have W4:=hR4.words;have l4:=hR4.lt rfl;refine load_cut (S:=S) (w:=w) (by rfl) (by rfl) (by rfl) ?hat ?ext ?h0 ?h1 ?fz ?low ?rest
  case ext=>exact exx
  case h0=>go_simp
  case h1=>go_simp
  case fz=>intro k;go_simp
  case low=>
   refine ⟨⟨?_, ?_, ?_⟩,fun b o e=>?_,fun b o e=>?_, ?_, ?_, ?_, ?_⟩
   . omega
   . omega
   . omega
   . have h1:=hR2.far e;have h2:=hR2.lt e
     (try simp at h1)
     omega
   . have h1:=hR3.far e;have h2:=hR3.lt e
     (try simp at h1)
     omega
   . omega
   . omega
   . omega
   omega
  case hat=>
   exact
    { c0:=by go_simp
      c1:=by go_simp
      c2:=by go_simp
      c3:=by go_simp
      f2:=by go_simp
      sizes:=(hR2.at_).ext (exx)
      order:=(hR3.at_).ext (exx)
      words:=W4.1.ext (exx)
      le:=W4.2.1
      cap:=W4.2.2
      map:=by
       refine MapAt.ext (map_at w4 _ ?_) ?_
       . (simp;done)
       exact exx
      below:=by simp
      apart1:=by simp only [ne_eq];omega
      apart2:=by simp only [ne_eq];omega
      apart3:=by simp only [ne_eq];omega
      far1:=fun b o e hm=>by
       have h1:=hR2.far e;have h2:=hR2.lt e
       (try simp at h1)
       simp only [Hd.own,List.mem_cons,List.not_mem_nil,or_false] at hm;omega
      far2:=fun b o e hm=>by
       have h1:=hR3.far e;have h2:=hR3.lt e
       (try simp at h1)
       simp only [Hd.own,List.mem_cons,List.not_mem_nil,or_false] at hm;omega
      pos:=HF.out.fr.pos
      small:=by simp only;omega
      few:=few
      old1:=fun b o e=>by
       have h2:=hR2.lt e;simp;omega
      old2:=fun b o e=>by
       have h2:=hR3.lt e;simp;omega }
  case rest=>
   clear hmm hR2 hR3 hR4 hb1 hb2 hb3 hb4 hg2 hg3 hg4 q1 q2 q3 q4 r4 W4 l4 HC HS HO HW hp hq;intro w9 H9 lo;have N0:=hZ H9;have LO:=hZ lo;clear H9 lo;have WK:=hZ HF.out.walk
   go_wp2_with (first
    | go_loud (go_at_call 61;refine (lwalk_any N0.out WK.out).mono ?_;rintro e w10 ⟨_,⟨hno,_⟩ | ⟨T,G,p,k,hR,rfl,hL⟩⟩;cases hno;cases hR;have N:=hZ (show LdAt w w10 _ _ S _ _ _ _ from hL);clear N0 hL)
    | go_loud (go_at_call 62;refine (isLinked_any N.out HF.out.gaps (by omega) (by omega) HF.out.linked).mono ?_;rintro e w11 ⟨rfl,E11⟩;have N1:=hZ (N.out.ext E11);clear N E11)
    | (go_at_call 63;refine (areCells_any N1.out HF.out).mono ?_;rintro e w12 ⟨rfl,E12⟩;have N2:=hZ (N1.out.ext E12);clear N1 E12)
    | (go_at_call 64;refine (areUsed_any N2.out HF.out).mono ?_;rintro e w13 ⟨rfl,E13⟩;have N3:=hZ (N2.out.ext E13);clear N2 E13)
    | (go_at_call 65;refine (areChained_any N3.out HF.out.chainsOk (by omega) HF.out.chained).mono ?_;rintro e w14 ⟨rfl,E14⟩;have N4:=hZ (N3.out.ext E14);have h0:=N4.out.h0;clear N3 E14))
   go_ret2
   exact ⟨_,rfl,N4.out.toHAt,N4.out.own0,N4.out.ext0,LO.out.2.1,LO.out.2.2⟩
def IntsPost (w:World) (l:List Int) (e:Ending) (w':World):Prop:=∃ p c,e = .returned (.slice p l.length c)/\Row w' w.heap.size p c l/\Ext w w'/\(0 < l.length \/ p=none)
set_option maxHeartbeats 4000000 in
theorem ints_any (h:SliceAt w p c l) (hp:p=none->c=0) (hl:l.length<=1000000) :
    Calls Tryz.prog 17 #[.slice p l.length c] w (IntsPost w l):=by
  obtain ⟨i0,hi,hz0,hz1,hz2⟩:=info_parts (show (Tryz.prog.info? 3).map (fun i=>(i.zero,i.size,i.bytes))=some (some (.int .i64 0),1,8) from by kernel_rfl);have main:∀ ad:Addr,p=some ad->(∀ j u,(ints l)[j]? = some u->w.cell? (ad.add j)=some u)->Calls Tryz.prog 17 #[.slice p l.length c] w (IntsPost w l):=by
   rintro ad rfl hc;have HC:=hZ hc;have WF:=hZ h.wf;clear h hc hp;go_enter Tryz.func17,Tryz.ntmps17
   go_wp2_with (at_builtin;refine Go.wpList_append_own _ rfl _ _ 22 rfl w.heap.size 3 i0 (.int .i64 0) 1 8 Tryz.underlying22 hi hz0 hz1 hz2 rfl (by decide) _ 0 [] rfl (World.ownsRow_nil w _ _ _) ad l.length c (ints l) rfl ?qc1 ?qc2 ?qc3 ?qc4 ?qc5 ?qc6 ?_)
   case qc1=>simp [ints]
   case qc2=>exact HC.out
   case qc3=>intro u hu;obtain ⟨x,_,rfl⟩:=List.mem_map.1 hu;rfl
   case qc4=>unfold maxLen;omega
   case qc5=>omega
   case qc6=>omega
   intro v' w1 hown hgrow hnil;go_wp2;go_returns;have hE:Ext w w1:=((Below.refl _ w)).grown hgrow (by simp) (by intro k hk;simp [Value.ownBlock] at hk)
   rcases hown.2 with ⟨rfl,hz⟩ | ⟨g,cap,cur,rfl,h1,h2⟩
   . have hz':l.length=0:=by omega
     have:l=[]:=List.eq_nil_of_length_eq_zero hz';subst this;exact ⟨none,0,rfl,Row.nil _ _,hE,.inr rfl⟩
   refine ⟨some ⟨g,0,none⟩,cap,by simp,⟨by simpa using hown,WF.out⟩,hE,.inl ?_⟩
   rcases Nat.eq_zero_or_pos l.length with h0 | h0
   . have:=hnil.2 (List.eq_nil_of_length_eq_zero h0)
     cases this
   exact h0
  by_cases h0:0 < l.length
  . obtain ⟨b,o,rfl,hb,hc⟩:=h.cells h0;refine main _ rfl fun j u hj=>?_
    obtain ⟨hj1,hj2⟩:=List.getElem?_eq_some_iff.1 hj;have hj3:j < l.length:=by simpa [ints] using hj1
    rw [Addr.add_lit,hc j l[j] (List.getElem?_eq_getElem hj3),<- hj2];simp [ints]
  have hl0:l=[]:=List.eq_nil_of_length_eq_zero (by omega)
  cases p with
  | some ad=>exact main ad rfl fun j u hj=>by subst hl0;simp [ints] at hj
  | none=>
   have:=hp rfl;subst this hl0;clear h hp main h0;go_enter Tryz.func17,Tryz.ntmps17;go_wp2;go_returns;exact ⟨none,0,rfl,Row.nil _ _,exx,.inr rfl⟩
set_option maxHeartbeats 4000000 in
theorem dProduct (h:SliceAt w p c l) (hb:∀ s ∈ l,1<=s/\s<=12) :
    Calls Tryz.prog 119 #[.slice p l.length c,.int .i64 0] w fun e w'=>e = .returned (.int .i64 (Hp.prodM l))/\Ext w w':=by
  have hle:=h.le;have hcap:=h.cap;have H:=hZ h;have HB:=hZ hb;clear h hb;obtain ⟨n,hL⟩:∃ n,l.length=n:=⟨_,rfl⟩
  have HL:=hZ hL;rw [hL] at hle ⊢;clear hL;go_enter Tryz.func119,Tryz.ntmps119
  go_wp2_with fail
  go_loopg [5,6] n (fun g s i wr=>∃ (j:Nat) (m:Int),j<=n/\n-j<=g/\i = .int .i64 j/\s = .int .i64 m/\0<=m/\m<=3000/\Hid (m=Hp.prodM (l.take j))/\Hid (Ext w wr))
  case atStart=>exact ⟨0,1,Nat.zero_le _,by omega,rfl,rfl,by omega,by omega,hZ rfl,hZ exx⟩
  case round=>
   obtain ⟨j,m,hj,hg,rfl,rfl,hm0,hm1,HP,E⟩:=hrel
   by_cases hlt:j < n
   . obtain ⟨x,hx⟩:=rd_get (l:=l) (j:=j) (by rw [HL.out];exact hlt);have hxb:=HB.out x (List.mem_of_getElem? hx);obtain ⟨b,o,rfl,hb,hcell⟩:=(H.out.ext E.out).cells (by rw [HL.out];omega);have gx:=hcell j x hx;have hp1:m * x<=36000:=by
      have:=Int.mul_le_mul hm1 hxb.2 (by omega) (by omega);omega
     have hp0:0<=m * x:=Int.mul_nonneg hm0 (by omega);have HP2:=hZ (show min 3000 (m * x)=Hp.prodM (l.take (j+1)) by rw [take_snocI hx,Hp.prodM_snoc,HP.out]);clear hcell hx hxb HP;generalize he:m * x=qv at hp0 hp1 HP2;have e2:wrap64 (m * x)=qv:=by rw [he];exact IntWalk.wrap64_in _ ⟨by omega,by omega⟩
     clear he
     go_wp2_with fail
     go_roundg (n-(j+1))
     case measure=>omega
     case rel=>exact ⟨j+1,min 3000 qv,by omega,Nat.le_refl _,by go_num,rfl,by omega,by omega,HP2,E⟩
   have:j=n:=by omega
   subst this;have hp:=HP.out;rw [<- HL.out,List.take_length] at hp;subst hp
   go_wp2_with fail
   go_returns;exact ⟨rfl,E.out⟩
set_option maxHeartbeats 4000000 in
theorem dIsOrder {d:Nat} {b:Bool} (h:SliceAt w q d o) (hn:n<=1000) (hb:b=true ↔ Hp.OrdOk n o) :
    Calls Tryz.prog 120 #[.slice p n c,.slice q o.length d] w fun e w'=>e = .returned (.bool b)/\Ext w w':=by
  have hle:=h.le;have hcap:=h.cap;have H:=hZ h;have HB:=hZ hb;clear h hb
  by_cases hq:o.length=n
  . rw [hq] at hle ⊢;have HL:=hZ hq;clear hq;have tq:((n:Int) != (n:Int))=false:=by simp
    go_enter Tryz.func120,Tryz.ntmps120
    go_wp2_with fail
    go_loopg [5] n (fun g i wr=>∃ j:Nat,j<=n/\n-j<=g/\i = .int .i64 j/\Hid (Hp.OrdTo n o j)/\Hid (Ext w wr))
    case atStart=>exact ⟨0,Nat.zero_le _,by omega,rfl,hZ (fun k x hk=>by omega),hZ exx⟩
    case round=>
     obtain ⟨j,hj,hg,rfl,A,E⟩:=hrel
     by_cases hlt:j < n
     . obtain ⟨x,hx⟩:=rd_get (l:=o) (j:=j) (by rw [HL.out];exact hlt);have HX:=hZ hx;obtain ⟨bb,oo,rfl,hbb,hcell⟩:=(H.out.ext E.out).cells (by rw [HL.out];omega);have gx:=hcell j x hx;have HC:=hZ hcell;have tk:decide ((j:Int) < (n:Int))=true:=dT;have sb:IntKind.i64.wrap ((n:Int)-1)=(n:Int)-1:=IntWalk.i64_in _ (by omega);clear hcell hx
       cases hw:Hp.within 0 ((n:Int)-1) x with
       | false=>
        have hbf:b=false:=by
         cases b with
         | false=>rfl
         | true=>
          have h1:=(HB.out.1 rfl).2 j x hlt HX.out;simp [Hp.within,h1.1] at hw
        subst hbf;have HI:=hZ (fun W=>hw ▸ dIn x 0 ((n:Int)-1) W);clear hw
        go_wp2_with (go_at_call 66;refine (HI.out _).mono ?_;rintro e w1 ⟨rfl,hb1⟩;obtain ⟨hc1,hf1,hs1⟩:=hb1.cells)
        go_returns;exact ⟨rfl,E.out.trans hb1⟩
       | true=>
        have hwi:0<=x/\x<=(n:Int)-1:=by simpa [Hp.within] using hw
        have HI:=hZ (fun W=>hw ▸ dIn x 0 ((n:Int)-1) W);clear hw
        go_wp2_with (go_at_call 66;refine (HI.out _).mono ?_;rintro e w1 ⟨rfl,hb1⟩;obtain ⟨hc1,hf1,hs1⟩:=hb1.cells)
        have E1:=hZ (E.out.trans hb1);have E1l:=hZ hb1;have zb:=Nat.lt_of_lt_of_le hbb hb1.le
        go_loopg [6] (j+1) (fun g i wr=>∃ k:Nat,k<=j/\j+1-k<=g/\i = .int .i64 k/\Hid (∀ m y,m < k->Hp.rd o m=some y->y ≠ x)/\Hid (Ext w1 wr))
        case atStart=>exact ⟨0,Nat.zero_le _,by omega,rfl,hZ (fun m y hm=>by omega),hZ (Ext.refl _)⟩
        case round=>
         obtain ⟨k,hk,hg2,rfl,A2,E2⟩:=hrel
         by_cases hkj:k < j
         . obtain ⟨y,hy⟩:=rd_get (l:=o) (j:=k) (by rw [HL.out];omega);have HY:=hZ hy;have gx':=(E2.out.cell zb (oo+j)).trans ((E1l.out.cell hbb _).trans gx);have gy':=(E2.out.cell zb (oo+k)).trans ((E1l.out.cell hbb _).trans (HC.out k y hy));have zr:=Nat.lt_of_lt_of_le zb E2.out.le;have tk2:decide ((k:Int) < (j:Int))=true:=dT;have kn:k < n:=by omega
           clear hy
           by_cases hxy:y=x
           . have t0:(y == x)=true:=by simpa using hxy
             have hbf:b=false:=by
              cases b with
              | false=>rfl
              | true=>exact absurd hxy (((HB.out.1 rfl).2 j x hlt HX.out).2 k y hkj HY.out)
             subst hbf;clear hxy
             go_wp2_with fail
             have pr42a:=fun u_ (h_:Ext wr u_)=>(h_.cell zr (oo+j)).trans gx'
             have pr42b:=fun u_ (h_:Ext wr u_)=>(h_.cell zr (oo+k)).trans gy'
             refine wp_region_seq (S:=fun W=>Ext wr W) (R:=Ext) (by kernel_rfl) Ext.refl ?_ ?_
             . exact exx
             refine' tkL 0 ?_;refine' tkL 1 ?_;refine' tkL 2 ?_;refine' tkL 3 ?_;refine' tkL 4 ?_;refine' tkL 5 ?_;refine' tkL 6 ?_;refine' tkL 7 ?_;refine' tkL 8 ?_;refine wpAnyR_done (by kernel_rfl) ?_ _;intro x1 _ Ex1;clear pr42a pr42b
             go_wp2_with fail
             go_returns;exact ⟨rfl,(E1.out.trans E2.out).trans Ex1⟩
           have t0:(y == x)=false:=by simpa using hxy
           have A3:=hZ (show ∀ m z,m < k+1->Hp.rd o m=some z->z ≠ x from fun m z hm hz=>by
            by_cases e:m=k
            . subst e;rw [HY.out] at hz
              cases hz
              exact hxy
            . exact A2.out m z (by omega) hz)
           clear hxy
           go_wp2_with fail
           have pr43a:=fun u_ (h_:Ext wr u_)=>(h_.cell zr (oo+j)).trans gx'
           have pr43b:=fun u_ (h_:Ext wr u_)=>(h_.cell zr (oo+k)).trans gy'
           refine wp_region_seq (S:=fun W=>Ext wr W) (R:=Ext) (by kernel_rfl) Ext.refl ?_ ?_
           . exact exx
           refine' tkL 0 ?_;refine' tkL 1 ?_;refine' tkL 2 ?_;refine' tkL 3 ?_;refine' tkL 4 ?_;refine' tkL 5 ?_;refine' tkL 6 ?_;refine' tkL 7 ?_;refine' tkL 8 ?_;refine wpAnyR_done (by kernel_rfl) ?_ _;intro x1 _ Ex1;clear pr43a pr43b;have E3:=hZ (E2.out.trans Ex1)
           go_wp2_with fail
           go_roundg (j+1-(k+1))
           case measure=>omega
           case rel=>exact ⟨k+1,by omega,Nat.le_refl _,by go_num,A3,E3⟩
         have tk2:decide ((k:Int) < (j:Int))=false:=dF;have:k=j:=by omega
         subst this;have E3:=hZ (E1.out.trans E2.out);have A3:=hZ (show Hp.OrdTo n o (k+1) from fun m z hm hz=>by
          by_cases e:m=k
          . subst e;rw [HX.out] at hz
            cases hz
            exact ⟨hwi,A2.out⟩
          . exact A.out m z (by omega) hz)
         go_wp2_with fail
         go_roundg (n-(k+1))
         case measure=>omega
         case rel=>exact ⟨k+1,by omega,Nat.le_refl _,by go_num,A3,E3⟩
     have:j=n:=by omega
     subst this;have tk:decide ((j:Int) < (j:Int))=false:=dF;have hbt:b=true:=HB.out.2 ⟨HL.out,A.out⟩;subst hbt
     go_wp2_with fail
     go_returns;exact ⟨rfl,E.out⟩
  have tq:((o.length:Int) != (n:Int))=true:=by
   have:(o.length:Int) ≠ (n:Int):=by omega
   simpa using this
  have hbf:b=false:=by
   cases b with
   | false=>rfl
   | true=>exact absurd (HB.out.1 rfl).1 hq
  subst hbf;clear hq;go_enter Tryz.func120,Tryz.ntmps120
  go_wp2_with fail
  go_returns;exact ⟨rfl,exx⟩
set_option maxRecDepth 100000 in
set_option maxHeartbeats 4000000 in
theorem dCheckFrame {d:Nat} (hs:SliceAt w p c z) (ho:SliceAt w q d o) :
    Calls Tryz.prog 57 #[.slice p z.length c,.slice q o.length d] w fun e w'=>e = .returned (.int .i64 (Hp.frameErr z o))/\Ext w w':=by
  have hle:=hs.le;have hcap:=hs.cap;have H:=hZ hs;have HO:=hZ ho;clear hs ho
  by_cases h6:z.length > 6
  . have e:Hp.frameErr z o=5:=by unfold Hp.frameErr;rw [if_pos h6]
    have t6:decide ((z.length:Int) > 6)=true:=dT;rw [e];clear e;go_enter Tryz.func57,Tryz.ntmps57
    go_wp2_with fail
    go_returns;exact ⟨rfl,exx⟩
  obtain ⟨ee,hee⟩:∃ ee,Hp.frameErr z o=ee:=⟨_,rfl⟩
  rw [hee];have HE:=hZ hee;clear hee;obtain ⟨n,hL⟩:∃ n,z.length=n:=⟨_,rfl⟩
  have HL:=hZ hL;rw [hL] at hle h6 ⊢;clear hL;have t6:decide ((n:Int) > 6)=false:=dF;go_enter Tryz.func57,Tryz.ntmps57
  go_wp2_with fail
  go_loopg [5] n (fun g i wr=>∃ j:Nat,j<=n/\n-j<=g/\i = .int .i64 j/\Hid (∀ k x,k < j->Hp.rd z k=some x->1<=x/\x<=12)/\Hid (Ext w wr))
  case atStart=>exact ⟨0,Nat.zero_le _,by omega,rfl,hZ (fun k x hk=>by omega),hZ exx⟩
  case round=>
   obtain ⟨j,hj,hg,rfl,A,E⟩:=hrel
   by_cases hlt:j < n
   . obtain ⟨x,hx⟩:=rd_get (l:=z) (j:=j) (by rw [HL.out];exact hlt);have HX:=hZ hx;obtain ⟨bb,oo,rfl,hbb,hcell⟩:=(H.out.ext E.out).cells (by rw [HL.out];omega);have gx:=hcell j x hx;have tk:decide ((j:Int) < (n:Int))=true:=dT;clear hcell hx
     cases hw:Hp.within 1 12 x with
     | false=>
      have he:ee=3:=by
       have h1:=HE.out;unfold Hp.frameErr at h1;rw [if_neg (by have:=HL.out;omega),if_pos] at h1
       . exact h1.symm
       apply Classical.byContradiction;intro hc;have h2:=List.all_eq_true.1 (by simpa using hc:z.all (fun n=>decide (1<=n) && decide (n<=12))=true) x (List.mem_of_getElem? HX.out);have h3:Hp.within 1 12 x=true:=h2;rw [hw] at h3
       cases h3
      subst he;have HI:=hZ (fun W=>hw ▸ dIn x 1 12 W);clear hw
      go_wp2_with (go_at_call 66;refine (HI.out _).mono ?_;rintro e w1 ⟨rfl,hb1⟩;obtain ⟨hc1,hf1,hs1⟩:=hb1.cells)
      go_returns;exact ⟨rfl,E.out.trans hb1⟩
     | true=>
      have hwi:1<=x/\x<=12:=by simpa [Hp.within] using hw
      have HI:=hZ (fun W=>hw ▸ dIn x 1 12 W);clear hw;have A3:=hZ (show ∀ k y,k < j+1->Hp.rd z k=some y->1<=y/\y<=12 from fun m y hm hy=>by
       by_cases e:m=j
       . subst e;rw [HX.out] at hy
         cases hy
         exact hwi
       . exact A.out m y (by omega) hy)
      go_wp2_with (go_at_call 66;refine (HI.out _).mono ?_;rintro e w1 ⟨rfl,hb1⟩;obtain ⟨hc1,hf1,hs1⟩:=hb1.cells)
      have E3:=hZ (E.out.trans hb1)
      go_roundg (n-(j+1))
      case measure=>omega
      case rel=>exact ⟨j+1,by omega,Nat.le_refl _,by go_num,A3,E3⟩
   have:j=n:=by omega
   subst this;have tk:decide ((j:Int) < (j:Int))=false:=dF;have hb:∀ s ∈ z,1<=s/\s<=12:=fun s hs=>by
    obtain ⟨k,hk,rfl⟩:=List.getElem_of_mem hs;exact A.out k _ (by have:=HL.out;omega) (List.getElem?_eq_getElem hk)
   have hall:z.all (fun n=>decide (1<=n) && decide (n<=12))=true:=List.all_eq_true.2 fun x hx=>by
    have:=hb x hx;simp only [Bool.and_eq_true,decide_eq_true_eq];exact this
   have he0:Hp.frameErr z o=(if z.foldl (· * ·) 1 > 2000 then 5 else if Hp.sortI o=Hp.upto z.length then 0 else 4:Int):=by
    unfold Hp.frameErr;rw [if_neg (show ¬ z.length > 6 by have:=HL.out;omega),if_neg (by rw [hall];simp)]
   rw [HE.out] at he0;have he:=he0.symm;clear he0;have PR:=hZ (fun E1=>HL.out ▸ dProduct (H.out.ext (w':=wr) E1) hb);have big:=Hp.prodM_big hb;generalize Hp.prodM z=pm at PR big;clear A hall
   by_cases h2:pm > 2000
   . rw [if_pos (big.1 h2)] at he;subst he;have t2:decide (pm > 2000)=true:=decide_eq_true h2;clear big
     go_wp2_with (go_at_call 119;refine (PR.out E.out).mono ?_;rintro e w1 ⟨rfl,hb1⟩;obtain ⟨hc1,hf1,hs1⟩:=hb1.cells)
     go_returns;exact ⟨rfl,E.out.trans hb1⟩
   rw [if_neg (fun h=>h2 (big.2 h))] at he;have t2:decide (pm > 2000)=false:=decide_eq_false h2;clear big;have OI:=Hp.ordOk_iff (o:=o) (n:=z.length);rw [HL.out] at OI he
   by_cases h3:Hp.sortI o=Hp.upto j
   . rw [if_pos h3] at he;subst he;have IO:=hZ (fun (W:World) (E1:Ext w W)=>dIsOrder (p:=p) (c:=c) (n:=j) (b:=true) (HO.out.ext E1) (by omega) ⟨fun _=>OI.2 h3,fun _=>rfl⟩);clear OI h3
     go_wp2_with (first
      | (go_at_call 119;refine (PR.out E.out).mono ?_;rintro e w1 ⟨rfl,hb1⟩;obtain ⟨hc1,hf1,hs1⟩:=hb1.cells)
      | (go_at_call 120;refine (IO.out _ (E.out.trans hb1)).mono ?_;rintro e w2 ⟨rfl,hb2⟩;obtain ⟨hc2,hf2,hs2⟩:=hb2.cells))
     go_returns;exact ⟨rfl,(E.out.trans hb1).trans hb2⟩
   rw [if_neg h3] at he;subst he;have IO:=hZ (fun (W:World) (E1:Ext w W)=>dIsOrder (p:=p) (c:=c) (n:=j) (b:=false) (HO.out.ext E1) (by omega) ⟨fun h=>absurd h (by decide),fun h=>absurd (OI.1 h) h3⟩);clear OI h3
   go_wp2_with (first
    | (go_at_call 119;refine (PR.out E.out).mono ?_;rintro e w1 ⟨rfl,hb1⟩;obtain ⟨hc1,hf1,hs1⟩:=hb1.cells)
    | (go_at_call 120;refine (IO.out _ (E.out.trans hb1)).mono ?_;rintro e w2 ⟨rfl,hb2⟩;obtain ⟨hc2,hf2,hs2⟩:=hb2.cells))
   go_returns;exact ⟨rfl,(E.out.trans hb1).trans hb2⟩
theorem dMany (h:SliceAt w p c l) (hb:∀ s ∈ l,1<=s/\s<=12) :
    Calls Tryz.prog 89 #[.slice p l.length c] w fun e w'=>e = .returned (.int .i64 (Hp.prodM l))/\Ext w w':=by
  have P:=hZ (dProduct h hb);clear h hb;go_enter Tryz.func89,Tryz.ntmps89
  go_wp2_with (go_at_call 119;refine (P.out).mono ?_;rintro e w1 ⟨rfl,hb1⟩;obtain ⟨hc1,hf1,hs1⟩:=hb1.cells)
  go_returns;exact ⟨rfl,exx⟩
def Hp.slimB (z o:List Int):Bool:=decide (z.length<=8) && (decide (o.length<=8) && (decide (Hp.frameErr z o ≠ 0) || decide (Hp.prodM z<=200)))
theorem dSlim {d:Nat} (hs:SliceAt w p c z) (ho:SliceAt w q d o) :
    Calls Tryz.prog 56 #[.slice p z.length c,.slice q o.length d] w fun e w'=>e = .returned (.bool (Hp.slimB z o))/\Ext w w':=by
  have CF:=hZ (dCheckFrame hs ho);have HM:=hZ (fun (W:World) (E:Ext w W)=>dMany (hs.ext E));clear hs ho
  by_cases h1:z.length<=8
  . have t1:decide ((z.length:Int) > 8)=false:=dF
    by_cases h2:o.length<=8
    . have t2:decide ((o.length:Int) > 8)=false:=dF;have e:Hp.slimB z o=(decide (Hp.frameErr z o ≠ 0) || decide (Hp.prodM z<=200)):=by simp [Hp.slimB,h1,h2]
      rw [e];clear e
      by_cases h3:Hp.frameErr z o=0
      . have e:(decide (Hp.frameErr z o ≠ 0) || decide (Hp.prodM z<=200))=decide (Hp.prodM z<=200):=by simp [h3]
        have hb:=(Hp.frameErr_ok h3).1.pos;have M:=hZ (fun (W:World) (E:Ext w W)=>HM.out W E hb);rw [e];have C:=hZ (h3 ▸ CF.out);clear e h3 hb CF HM;go_enter Tryz.func56,Tryz.ntmps56
        go_wp2_with (first
         | (go_at_call 57;refine (C.out).mono ?_;rintro e w1 ⟨rfl,hb1⟩;obtain ⟨hc1,hf1,hs1⟩:=hb1.cells)
         | (go_at_call 89;refine (M.out _ hb1).mono ?_;rintro e w2 ⟨rfl,hb2⟩;obtain ⟨hc2,hf2,hs2⟩:=hb2.cells))
        go_returns;exact ⟨rfl,hb1.trans hb2⟩
      have e:(decide (Hp.frameErr z o ≠ 0) || decide (Hp.prodM z<=200))=true:=by simp [h3]
      have t3:(Hp.frameErr z o != 0)=true:=by simpa using h3
      rw [e];clear e h3 HM;generalize Hp.frameErr z o=fe at CF t3;go_enter Tryz.func56,Tryz.ntmps56
      go_wp2_with (go_at_call 57;refine (CF.out).mono ?_;rintro e w1 ⟨rfl,hb1⟩;obtain ⟨hc1,hf1,hs1⟩:=hb1.cells)
      go_returns;exact ⟨rfl,exx⟩
    have t2:decide ((o.length:Int) > 8)=true:=dT;have e:Hp.slimB z o=false:=by simp [Hp.slimB,h2]
    rw [e];clear e CF HM;go_enter Tryz.func56,Tryz.ntmps56
    go_wp2_with fail
    go_returns;exact ⟨rfl,exx⟩
  have t1:decide ((z.length:Int) > 8)=true:=dT;have e:Hp.slimB z o=false:=by simp [Hp.slimB,h1]
  rw [e];clear e CF HM;go_enter Tryz.func56,Tryz.ntmps56
  go_wp2_with fail
  go_returns;exact ⟨rfl,exx⟩
theorem lFault {d:Nat} {n:Int} (hs:SliceAt w p c z) (ho:SliceAt w q d o) :
    Calls Tryz.prog 18 #[.slice p z.length c,.slice q o.length d,.int .i64 n] w fun e w'=>e = .returned (.int .i64 (Hp.newErr z o n))/\Ext w w':=by
  have CF:=hZ (dCheckFrame hs ho);clear hs ho
  by_cases h3:Hp.frameErr z o=0
  . have I:=hZ (fun W=>dIn n 32 40000 W);have C:=hZ (h3 ▸ CF.out);clear CF
    cases hw:Hp.within 32 40000 n with
    | true=>
     have e:Hp.newErr z o n=0:=by unfold Hp.newErr;rw [if_neg (by simp [h3]),hw];rfl
     rw [e];rw [hw] at I;clear e hw h3;go_enter Tryz.func18,Tryz.ntmps18
     go_wp2_with (first
      | (go_at_call 57;refine (C.out).mono ?_;rintro e w1 ⟨rfl,hb1⟩;obtain ⟨hc1,hf1,hs1⟩:=hb1.cells)
      | (go_at_call 66;refine (I.out _).mono ?_;rintro e w2 ⟨rfl,hb2⟩;obtain ⟨hc2,hf2,hs2⟩:=hb2.cells))
     go_returns;exact ⟨rfl,hb1.trans hb2⟩
    | false=>
     have e:Hp.newErr z o n=3:=by unfold Hp.newErr;rw [if_neg (by simp [h3]),hw];rfl
     rw [e];rw [hw] at I;clear e hw h3;go_enter Tryz.func18,Tryz.ntmps18
     go_wp2_with (first
      | (go_at_call 57;refine (C.out).mono ?_;rintro e w1 ⟨rfl,hb1⟩;obtain ⟨hc1,hf1,hs1⟩:=hb1.cells)
      | (go_at_call 66;refine (I.out _).mono ?_;rintro e w2 ⟨rfl,hb2⟩;obtain ⟨hc2,hf2,hs2⟩:=hb2.cells))
     go_returns;exact ⟨rfl,hb1.trans hb2⟩
  have e:Hp.newErr z o n=Hp.frameErr z o:=by unfold Hp.newErr;rw [if_pos h3]
  have t3:(Hp.frameErr z o != 0)=true:=by simpa using h3
  rw [e];clear e h3;generalize Hp.frameErr z o=fe at CF t3 ⊢;go_enter Tryz.func18,Tryz.ntmps18
  go_wp2_with (go_at_call 57;refine (CF.out).mono ?_;rintro e w1 ⟨rfl,hb1⟩;obtain ⟨hc1,hf1,hs1⟩:=hb1.cells)
  go_returns;exact ⟨rfl,exx⟩
structure ActsW (w:World) (p:Option Addr) (c:Nat) (l:List Hp.Act'):Prop where
 le:l.length<=c
 cap:c<=9223372036854775807
 cells:0 < l.length -> ∃ b o,p=some ⟨b,o,none⟩/\b < w.heap.size /\ ∀ (j:Nat) (x:Hp.Act'),l[j]? = some x -> ∃ q c f,ActOk { x with list:=[] } f/\w.cell? ⟨b,o+j * 5,none⟩=some (.int .u8 x.kind)/\w.cell? ⟨b,o+j * 5+1,none⟩=some (.int .i64 x.a)/\w.cell? ⟨b,o+j * 5+2,none⟩=some (.slice q x.list.length c)/\w.cell? ⟨b,o+j * 5+3,none⟩=some (.int .u8 f)/\w.cell? ⟨b,o+j * 5+4,none⟩=some (.int .i64 x.n)/\SliceAt w q c x.list
theorem ActsW.ext {l:List Hp.Act'} (h:ActsW w p c l) (k:Ext w w'):ActsW w' p c l:=by
 refine ⟨h.le,h.cap,fun h0=>?_⟩
 obtain ⟨b,o,rfl,hb,hc⟩:=h.cells h0
 refine ⟨b,o,rfl,Nat.lt_of_lt_of_le hb k.le,fun j x hx=>?_⟩
 obtain ⟨q,c',f,ok,a0,a1,a2,a3,a4,hs⟩:=hc j x hx
 exact ⟨q,c',f,ok,(k.cell hb _).trans a0,(k.cell hb _).trans a1,(k.cell hb _).trans a2,(k.cell hb _).trans a3,(k.cell hb _).trans a4,hs.ext k⟩
theorem ActsW.at_ {l:List Hp.Act'} (h:ActsW w p c l) (hl:∀ x ∈ l,x.list.length<=14):ActsAt w p c l:=by
 refine ⟨h.le,h.cap,fun h0=>?_⟩
 obtain ⟨b,o,rfl,hb,hc⟩:=h.cells h0
 refine ⟨b,o,rfl,hb,fun j x hx=>?_⟩
 obtain ⟨q,c',f,ok,hr⟩:=hc j x hx
 exact ⟨q,c',f,⟨ok.k0,ok.fault,ok.f2,ok.n1,ok.n2,ok.a1,ok.a2,by have:=hl x (List.mem_of_getElem? hx);omega⟩,hr⟩
def NilActs (w:World) (pa:Option Addr) (acts:List Hp.Act'):Prop:=∀ (b o j:Nat) (x:Hp.Act') (q:Option Addr) (c:Nat),pa=some ⟨b,o,none⟩->acts[j]? = some x->w.cell? ⟨b,o+j * 5+2,none⟩=some (.slice q x.list.length c)->q=none->c=0
theorem NilActs.ext (h:NilActs w pa acts) (ha:ActsW w pa ca acts) (e:Ext w w'):NilActs w' pa acts:=fun b o j x q c hp hx hc hq=>by
 obtain ⟨b',o',e',hb,_⟩:=ha.cells (by have:=(List.getElem?_eq_some_iff.1 hx).1;omega)
 rw [hp] at e'
 cases e'
 exact h b o j x q c hp hx ((e.cell hb _).symm.trans hc) hq
structure SAt (w:World) (sp:Option Addr) (sc:Nat) (op:Option Addr) (oc:Nat) (pa:Option Addr) (ca:Nat) (z o:List Int) (acts:List Hp.Act'):Prop where
 n3:NilActs w pa acts
 sizes:SliceAt w sp sc z
 order:SliceAt w op oc o
 acts:ActsW w pa ca acts
 n1:sp=none->sc=0
 n2:op=none->oc=0
theorem SAt.ext (h:SAt w sp sc op oc pa ca z o acts) (e:Ext w w'):SAt w' sp sc op oc pa ca z o acts:=
 { h with sizes:=h.sizes.ext e,order:=h.order.ext e,acts:=h.acts.ext e,n3:=h.n3.ext h.acts e }
def Hp.thinB (z o:List Int) (n:Int) (acts:List Hp.Act'):Bool:=
 Hp.slimB z o && (decide (acts.length<=60) && (acts.all (fun x=>decide (x.list.length<=14)) && (decide (Hp.frameErr z o ≠ 0) || (decide (n<=400) || decide (40000 < n)))))
set_option maxRecDepth 100000 in
set_option maxHeartbeats 4000000 in
theorem lThin {n:Int} (h:SAt w sp sc op oc pa ca z o acts) :
    Calls Tryz.prog 14 #[.agg #[.slice sp z.length sc,.slice op o.length oc,.int .i64 n,.slice pa acts.length ca]] w fun e w'=>e = .returned (.bool (Hp.thinB z o n acts))/\Ext w w':=by
  have E0:Ext w (w.alloc (.cells #[.slice sp z.length sc,.slice op o.length oc,.int .i64 n,.slice pa acts.length ca] 25)):=Ext.alloc (Ext.refl _) _;have SL:=hZ (dSlim (h.sizes.ext E0) (h.order.ext E0));have CF:=hZ (fun (W:World) (E:Ext w W)=>dCheckFrame (h.sizes.ext E) (h.order.ext E));have HA:=hZ h.acts;have le:=h.acts.le;have cap:=h.acts.cap;clear h;obtain ⟨b,hb⟩:∃ b,Hp.thinB z o n acts=b:=⟨_,rfl⟩
  rw [hb];have HB:=hZ hb;clear hb
  cases hs:Hp.slimB z o with
  | false=>
   have:b=false:=by rw [<- HB.out];simp [Hp.thinB,hs]
   subst this;rw [hs] at SL;clear hs CF E0;go_enter Tryz.func14,Tryz.ntmps14
   go_wp2_with (go_at_call 56;refine (SL.out).mono ?_;rintro e w1 ⟨rfl,hb1⟩;obtain ⟨hc1,hf1,hs1⟩:=hb1.cells)
   go_returns;exact ⟨rfl,exx⟩
  | true=>
   rw [hs] at SL;have HS:=hZ hs;clear hs
   by_cases h60:acts.length<=60
   . have t60:decide ((acts.length:Int) > 60)=false:=dF;have H60:=hZ h60;obtain ⟨m,hm⟩:∃ m,acts.length=m:=⟨_,rfl⟩
     have HM:=hZ hm;rw [hm] at SL E0 le t60 h60 ⊢;clear hm;go_enter Tryz.func14,Tryz.ntmps14
     go_wp2_with (go_at_call 56;refine (SL.out).mono ?_;rintro e w1 ⟨rfl,hb1⟩;obtain ⟨hc1,hf1,hs1⟩:=hb1.cells)
     have c0:w1.cell? ⟨w.heap.size,0,none⟩=some (.slice sp z.length sc):=by go_simp
     have c1:w1.cell? ⟨w.heap.size,1,none⟩=some (.slice op o.length oc):=by go_simp
     have c2:w1.cell? ⟨w.heap.size,2,none⟩=some (.int .i64 n):=by go_simp
     have c3:w1.cell? ⟨w.heap.size,3,none⟩=some (.slice pa m ca):=by go_simp
     have z1:w.heap.size < w1.heap.size:=cell_lt c0;have E1:=hZ (E0.trans hb1);generalize hG:w.heap.size=gb at c0 c1 c2 c3 z1 ⊢;clear hc1 hf1 hs1 hb1 SL E0
     go_loopg [3] m (fun g i wr=>∃ j:Nat,j<=m/\m-j<=g/\i = .int .i64 j/\Hid (∀ k x,k < j->acts[k]? = some x->x.list.length<=14)/\Hid (Ext w1 wr))
     case atStart=>exact ⟨0,Nat.zero_le _,by omega,rfl,hZ (fun k x hk=>by omega),hZ (Ext.refl _)⟩
     case round=>
      obtain ⟨j,hj,hg,rfl,A,E⟩:=hrel;have c3':=(E.out.cell z1 3).trans c3;have zr:=Nat.lt_of_lt_of_le z1 E.out.le
      by_cases hlt:j < m
      . obtain ⟨x,hx⟩:∃ x,acts[j]? = some x:=⟨acts[j]'(by rw [HM.out];exact hlt),List.getElem?_eq_getElem _⟩
        obtain ⟨bb,oo,rfl,hbb,hc⟩:=(HA.out.ext (E1.out.trans E.out)).cells (by rw [HM.out];omega);obtain ⟨q',c',f,ok,a0,a1,a2,a3,a4,hs⟩:=hc j x hx;have tk:decide ((j:Int) < (m:Int))=true:=dT;have HX:=hZ hx;have xc:=hs.le;clear hc hx ok hs a0 a1 a3 a4
        by_cases h14:x.list.length<=14
        . have t14:decide ((x.list.length:Int) > 14)=false:=dF;have A3:=hZ (show ∀ k y,k < j+1->acts[k]? = some y->y.list.length<=14 from fun k y hk hy=>by
           by_cases e:k=j
           . subst e;rw [HX.out] at hy
             cases hy
             exact h14
           . exact A.out k y (by omega) hy)
          go_wp2_with fail
          go_roundg (m-(j+1))
          case measure=>omega
          case rel=>exact ⟨j+1,by omega,Nat.le_refl _,by go_num,A3,E⟩
        have t14:decide ((x.list.length:Int) > 14)=true:=dT;have hbf:b=false:=by
         rw [<- HB.out];have:acts.all (fun x=>decide (x.list.length<=14))=false:=by
          apply Classical.byContradiction;intro hc;have h2:=List.all_eq_true.1 (by simpa using hc:acts.all (fun x=>decide (x.list.length<=14))=true) x (List.mem_of_getElem? HX.out);exact h14 (by simpa using h2)
         simp [Hp.thinB,this]
        subst hbf
        go_wp2_with fail
        go_returns;exact ⟨rfl,E1.out.trans E.out⟩
      have:j=m:=by omega
      subst this;have tk:decide ((j:Int) < (j:Int))=false:=dF;have hall:acts.all (fun x=>decide (x.list.length<=14))=true:=List.all_eq_true.2 fun x hx=>by
       obtain ⟨k,hk,rfl⟩:=List.getElem_of_mem hx;have:=A.out k _ (by have:=HM.out;omega) (List.getElem?_eq_getElem hk)
       simpa using this
      have hbe:(decide (Hp.frameErr z o ≠ 0) || (decide (n<=400) || decide (40000 < n)))=b:=by
       rw [<- HB.out];unfold Hp.thinB;rw [HS.out,hall];have:decide (acts.length<=60)=true:=decide_eq_true H60.out;rw [this];simp
      have c0':=(E.out.cell z1 0).trans c0;have c1':=(E.out.cell z1 1).trans c1;have c2':=(E.out.cell z1 2).trans c2;have C:=hZ (CF.out wr (E1.out.trans E.out));clear A hall CF c0 c1 c2
      by_cases h0:Hp.frameErr z o=0
      . rw [h0] at C hbe;have hbe:(decide (n<=400) || decide (40000 < n))=b:=by rw [<- hbe];simp
        clear h0
        by_cases h4:n<=400
        . have:b=true:=by rw [<- hbe];simp [h4]
          subst this;have t4:decide (n<=400)=true:=decide_eq_true h4;clear hbe
          go_wp2_with ((go_at_call 57;refine (C.out).mono ?_;rintro e w2 ⟨rfl,hb2⟩;obtain ⟨hc2,hf2,hs2⟩:=hb2.cells);have c2'':=(hb2.cell zr 2).trans c2')
          go_returns;exact ⟨rfl,(E1.out.trans E.out).trans hb2⟩
        have hbe:decide (40000 < n)=b:=by rw [<- hbe];simp [h4]
        have t4:decide (n<=400)=false:=decide_eq_false h4;subst hbe;clear h4
        go_wp2_with ((go_at_call 57;refine (C.out).mono ?_;rintro e w2 ⟨rfl,hb2⟩;obtain ⟨hc2,hf2,hs2⟩:=hb2.cells);have c2'':=(hb2.cell zr 2).trans c2')
        go_returns;exact ⟨rfl,(E1.out.trans E.out).trans hb2⟩
      have:b=true:=by rw [<- hbe];simp [h0]
      subst this;have t0:(Hp.frameErr z o != 0)=true:=by simpa using h0
      clear hbe h0;generalize Hp.frameErr z o=fe at C t0
      go_wp2_with ((go_at_call 57;refine (C.out).mono ?_;rintro e w2 ⟨rfl,hb2⟩;obtain ⟨hc2,hf2,hs2⟩:=hb2.cells);have c2'':=(hb2.cell zr 2).trans c2')
      go_returns;exact ⟨rfl,(E1.out.trans E.out).trans hb2⟩
   have t60:decide ((acts.length:Int) > 60)=true:=dT;have:b=false:=by rw [<- HB.out];simp [Hp.thinB,h60]
   subst this;clear CF E0;go_enter Tryz.func14,Tryz.ntmps14
   go_wp2_with (go_at_call 56;refine (SL.out).mono ?_;rintro e w1 ⟨rfl,hb1⟩;obtain ⟨hc1,hf1,hs1⟩:=hb1.cells)
   go_returns;exact ⟨rfl,exx⟩
def Hp.readyB (z o:List Int) (n:Int) (acts:List Hp.Act'):Bool:=Hp.thinB z o n acts && decide (Hp.newErr z o n=0)
set_option maxRecDepth 100000 in
set_option maxHeartbeats 4000000 in
theorem lReady {n:Int} (h:SAt w sp sc op oc pa ca z o acts) :
    Calls Tryz.prog 40 #[.agg #[.slice sp z.length sc,.slice op o.length oc,.int .i64 n,.slice pa acts.length ca]] w fun e w'=>e = .returned (.bool (Hp.readyB z o n acts))/\Ext w w':=by
  have E0:Ext w (w.alloc (.cells #[.slice sp z.length sc,.slice op o.length oc,.int .i64 n,.slice pa acts.length ca] 25)):=Ext.alloc (Ext.refl _) _;have TH:=hZ (lThin (n:=n) (h.ext E0));have FT:=hZ (fun (W:World) (E:Ext w W)=>lFault (n:=n) (h.sizes.ext E) (h.order.ext E));clear h
  cases ht:Hp.thinB z o n acts with
  | false=>
   have e:Hp.readyB z o n acts=false:=by simp [Hp.readyB,ht]
   rw [e];rw [ht] at TH;clear e ht FT;go_enter Tryz.func40,Tryz.ntmps40
   go_wp2_with (go_at_call 14;refine (TH.out).mono ?_;rintro e w1 ⟨rfl,hb1⟩;obtain ⟨hc1,hf1,hs1⟩:=hb1.cells)
   go_returns;exact ⟨rfl,exx⟩
  | true=>
   have e:Hp.readyB z o n acts=decide (Hp.newErr z o n=0):=by simp [Hp.readyB,ht]
   rw [e];rw [ht] at TH;clear e ht
   by_cases h0:Hp.newErr z o n=0
   . have e:decide (Hp.newErr z o n=0)=true:=decide_eq_true h0;rw [e];rw [h0] at FT;clear e h0;go_enter Tryz.func40,Tryz.ntmps40
     go_wp2_with (first
      | (go_at_call 14;refine (TH.out).mono ?_;rintro e w1 ⟨rfl,hb1⟩;obtain ⟨hc1,hf1,hs1⟩:=hb1.cells;have hz1_0:w.heap.size < w1.heap.size:=(by have h:=hb1.le;(try simp at h);omega);have hc1_0:=hb1.cell (b:=w.heap.size) (by first | omega | (simp;done) | (simp;omega));have hf1_0:=hb1.frozen (b:=w.heap.size) (by first | omega | (simp;done) | (simp;omega)))
      | (go_at_call 18;refine (FT.out _ (E0.trans hb1)).mono ?_;rintro e w2 ⟨rfl,hb2⟩;obtain ⟨hc2,hf2,hs2⟩:=hb2.cells))
     go_returns;exact ⟨rfl,(E0.trans hb1).trans hb2⟩
   have e:decide (Hp.newErr z o n=0)=false:=decide_eq_false h0;have t0:(Hp.newErr z o n == 0)=false:=by simpa using h0
   rw [e];clear e h0;generalize Hp.newErr z o n=fe at FT t0;go_enter Tryz.func40,Tryz.ntmps40
   go_wp2_with (first
    | (go_at_call 14;refine (TH.out).mono ?_;rintro e w1 ⟨rfl,hb1⟩;obtain ⟨hc1,hf1,hs1⟩:=hb1.cells;have hz1_0:w.heap.size < w1.heap.size:=(by have h:=hb1.le;(try simp at h);omega);have hc1_0:=hb1.cell (b:=w.heap.size) (by first | omega | (simp;done) | (simp;omega));have hf1_0:=hb1.frozen (b:=w.heap.size) (by first | omega | (simp;done) | (simp;omega)))
    | (go_at_call 18;refine (FT.out _ (E0.trans hb1)).mono ?_;rintro e w2 ⟨rfl,hb2⟩;obtain ⟨hc2,hf2,hs2⟩:=hb2.cells))
   go_returns;exact ⟨rfl,(E0.trans hb1).trans hb2⟩
def ActAmong (w:World) (p:Option Addr) (xs:List Value) (k:Nat) (x:Hp.Act'):Prop:=
 ∃ q c f,ActOk x f/\xs[k * 5]? = some (.int .u8 x.kind)/\xs[k * 5+1]? = some (.int .i64 x.a)/\xs[k * 5+2]? = some (.slice q x.list.length c)/\xs[k * 5+3]? = some (.int .u8 f)/\xs[k * 5+4]? = some (.int .i64 x.n)/\SliceAt w q c x.list /\
  ∀ b o,q=some ⟨b,o,none⟩->b < w.heap.size /\ ∀ o',p ≠ some ⟨b,o',none⟩
structure ActsRow (w0 w:World) (p:Option Addr) (c j:Nat) (l:List Hp.Act'):Prop where
 ext0:Ext w0 w
 own:∃ xs,w.ownsRow w0.heap.size 85 5 (.slice p j c) j xs /\ ∀ k x,k < j->l[k]? = some x->ActAmong w p xs k x
theorem ActAmong.ext {xs:List Value} {x:Hp.Act'} (h:ActAmong w p xs k x) (e:Ext w w'):ActAmong w' p xs k x:=by
 obtain ⟨q,c,f,h1,h2,h3,h4,h5,h6,h7,h8⟩:=h
 exact ⟨q,c,f,h1,h2,h3,h4,h5,h6,h7.ext e,fun b o e'=>⟨Nat.lt_of_lt_of_le (h8 b o e').1 e.le,(h8 b o e').2⟩⟩
theorem ActsRow.ext {l:List Hp.Act'} (h:ActsRow w0 w p c j l) (e:Ext w w'):ActsRow w0 w' p c j l:=by
 obtain ⟨xs,h1,h2⟩:=h.own
 refine ⟨h.ext0.trans e,xs,⟨h1.1, ?_⟩,fun k x hk hx=>(h2 k x hk hx).ext e⟩
 rcases h1.2 with e' | ⟨g,cap,cur,e',hb,hg,r⟩
 . exact .inl e'
 refine .inr ⟨g,cap,cur,e',hb, ?_,r⟩
 have:=(But.ofExt (l:=[]) e).block g (Array.getElem?_eq_some_iff.1 hg).1 (by simp)
 rw [this]
 exact hg
theorem ActsRow.at_ {l:List Hp.Act'} (h:ActsRow w0 w p c l.length l):ActsAt w p c l:=by
 obtain ⟨xs,h1,h2⟩:=h.own
 rcases h1.2 with ⟨e,hz⟩ | ⟨g,cap,cur,e,hb,hg,r1,r2,r3,r4⟩
 . injection e with e1 e2 e3
   refine ⟨by omega,by omega,fun h0=>by omega⟩
 injection e with e1 e2 e3
 subst e1 e3
 refine ⟨r1,by unfold maxLen at r2;omega,fun _=>⟨g,0,rfl,(Array.getElem?_eq_some_iff.1 hg).1,fun j x hx=>?_⟩⟩
 have hj:j < l.length:=(List.getElem?_eq_some_iff.1 hx).1
 obtain ⟨q,c',f,k1,k2,k3,k4,k5,k6,k7,_⟩:=h2 j x hj hx
 have cl:∀ i v,xs[i]? = some v->w.cell? ⟨g,0+i,none⟩=some v:=fun i v hv=>by
  have:=h1.cells (g:=g) rfl i _ hv;rw [Addr.add_lit] at this;exact this
 refine ⟨q,c',f,k1, ?_, ?_, ?_, ?_, ?_,k7⟩
 . exact cl _ _ k2
 . exact cl _ _ k3
 . exact cl _ _ k4
 . exact cl _ _ k5
 exact cl _ _ k6
theorem ActsRow.grow {cq:Nat} {l:List Hp.Act'} {x:Hp.Act'} {v':Value} {xs:List Value} (h0:Ext w0 w) (h1:w.ownsRow w0.heap.size 85 5 (.slice p j c) j xs) (h2:∀ k x,k < j->l[k]? = some x->ActAmong w p xs k x)
    (hx:l[j]? = some x) (hok:ActOk x f) (hs:SliceAt w q cq x.list) (hq:∀ b o,q=some ⟨b,o,none⟩->b < w.heap.size /\ ∀ o',p ≠ some ⟨b,o',none⟩)
    (hown:w'.ownsRow w0.heap.size 85 5 v' (j+1) (xs ++ [.int .u8 x.kind,.int .i64 x.a,.slice q x.list.length cq,.int .u8 f,.int .i64 x.n])) (hgr:w.grownBy w' (Value.slice p j c).ownBlock)
    (hor:∀ g cap,v' = .slice (some ⟨g,0,none⟩) (j+1) cap->p=some ⟨g,0,none⟩ \/ g=w.heap.size) :
    ∃ p' c',v' = .slice p' (j+1) c'/\ActsRow w0 w' p' c' (j+1) l:=by
  have hlen:xs.length=j * 5:=h1.1
  rcases hown.2 with ⟨_,hz⟩ | ⟨g,cap,cur,rfl,hb,hg,r⟩
  . omega
  refine ⟨some ⟨g,0,none⟩,cap,rfl, ?_,_,hown, ?_⟩
  . refine ext_grow h0 hgr fun r hr=>?_
    rcases h1.2 with ⟨e,_⟩ | ⟨g',cap',cur',e,hb',_⟩
    . rw [e] at hr;simp [Value.ownBlock] at hr
    rw [e] at hr;simp [Value.ownBlock] at hr;omega
  have keep:∀ (q:Option Addr) (c2:Nat) (l:List Int),(∀ b o,q=some ⟨b,o,none⟩->b < w.heap.size /\ ∀ o',p ≠ some ⟨b,o',none⟩)->SliceAt w q c2 l->SliceAt w' q c2 l /\ ∀ b o,q=some ⟨b,o,none⟩->b < w'.heap.size /\ ∀ o',(some ⟨g,0,none⟩:Option Addr) ≠ some ⟨b,o',none⟩:=fun q c2 l hf hs=>by
   have kb:But ((Value.slice p j c).ownBlock).toList w w':=⟨hgr.os,hgr.tape,hgr.output,hgr.size,fun i hi hn=>hgr.block i hi (fun e=>hn (by rw [<- e];simp))⟩
   refine ⟨hs.but kb fun b o e hm=>?_,fun b o e=>⟨Nat.lt_of_lt_of_le (hf b o e).1 hgr.size,fun o' e'=>?_⟩⟩
   . rcases h1.2 with ⟨e',_⟩ | ⟨g',cap',cur',e',hb',_⟩
     . injection e' with e1
       subst e1;simp [Value.ownBlock] at hm
     injection e' with e1
     subst e1;have:g'=b:=by simpa [Value.ownBlock,eq_comm] using hm
     subst this;exact (hf g' o e).2 0 rfl
   cases e'
   rcases hor _ _ rfl with hp | hg'
   . exact (hf g o e).2 0 hp
   have:=(hf g o e).1;omega
  intro k y hk hy
  by_cases e:k=j
  . subst e;rw [hx] at hy
    cases hy
    obtain ⟨n1,n2⟩:=keep q cq x.list hq hs;have ap:∀ i,(xs ++ [Value.int .u8 x.kind,.int .i64 x.a,.slice q x.list.length cq,.int .u8 f,.int .i64 x.n])[k * 5+i]? = [Value.int .u8 x.kind,.int .i64 x.a,.slice q x.list.length cq,.int .u8 f,.int .i64 x.n][i]? := fun i=>by
     rw [List.getElem?_append_right (by omega)]
     congr 1
     omega
    exact ⟨q,cq,f,hok,ap 0,ap 1,ap 2,ap 3,ap 4,n1,n2⟩
  obtain ⟨q',c',f',k1,k2,k3,k4,k5,k6,k7,k8⟩:=h2 k y (by omega) hy;obtain ⟨n1,n2⟩:=keep q' c' y.list k8 k7;have ap:∀ i v,xs[i]? = some v->(xs ++ [Value.int .u8 x.kind,.int .i64 x.a,.slice q x.list.length cq,.int .u8 f,.int .i64 x.n])[i]? = some v:=fun i v hv=>by
   rw [List.getElem?_append_left (List.getElem?_eq_some_iff.1 hv).1];exact hv
  exact ⟨q',c',f',k1,ap _ _ k2,ap _ _ k3,ap _ _ k4,ap _ _ k5,ap _ _ k6,n1,n2⟩
theorem act_info:(Tryz.prog.info? 85).map (fun i=>(i.zero,i.size,i.bytes))=some (some (.agg #[.int .u8 0,.int .i64 0,.slice none 0 0,.int .u8 0,.int .i64 0]),5,56):=by kernel_rfl
theorem cut_worldL {P:Program} {ops:Array Oper} {rest:List Oper} {Q:Exit->Act->World->Prop} {a:Act} {F:World->Prop} (h:F w) (k:∀ w',F w'->wpList P ops Q rest a w'):wpList P ops Q rest a w:=k w h
theorem news5 {v0 v1 v2 v3 v4:Value} (h0:w.cell? ⟨b,0,none⟩=some v0) (h1:w.cell? ⟨b,1,none⟩=some v1) (h2:w.cell? ⟨b,2,none⟩=some v2) (h3:w.cell? ⟨b,3,none⟩=some v3) (h4:w.cell? ⟨b,4,none⟩=some v4) :
    ∀ (j:Nat) (u:Value),[v0,v1,v2,v3,v4][j]? = some u->w.cell? ((⟨b,0,none⟩:Addr).add j)=some u:=fun j u hj=>by
  rw [Addr.add_lit,Nat.zero_add]
  match j,hj with
  | 0,hj=>cases hj;exact h0
  | 1,hj=>cases hj;exact h1
  | 2,hj=>cases hj;exact h2
  | 3,hj=>cases hj;exact h3
  | 4,hj=>cases hj;exact h4
  | j+5,hj=>simp at hj
theorem row_block {e:TypeId} {size:Nat} {xs:List Value} (h:w.ownsRow base e size (.slice p j c) j xs):∀ g,(Value.slice p j c).ownBlock=some g->p=some ⟨g,0,none⟩:=fun g hg=>by
 rcases h.2 with ⟨e,_⟩ | ⟨g',cap',cur,e,h1,_⟩
 . rw [e] at hg;simp [Value.ownBlock] at hg
 injection e with e1
 subst e1
 have:g'=g:=by simpa [Value.ownBlock] using hg
 rw [this]
def ActsPost (w:World) (l:List Hp.Act') (e:Ending) (w':World):Prop:=∃ p c,e = .returned (.slice p l.length c)/\ActsAt w' p c l/\Ext w w'
set_option maxRecDepth 100000 in
set_option maxHeartbeats 4000000 in
theorem acts_any (h:ActsAt w pa ca acts) (hl:acts.length<=60) (hl2:∀ x ∈ acts,x.list.length<=14) (hw:ActsW w pa ca acts) (hn:NilActs w pa acts) :
    Calls Tryz.prog 31 #[.slice pa acts.length ca] w (ActsPost w acts):=by
  have HA:=hZ h;have le:=h.le;have cap:=h.cap;have HL2:=hZ hl2;have HN:=hZ hn;have HW:=hZ hw;clear h hl2 hn hw;obtain ⟨m,hm⟩:∃ m,acts.length=m:=⟨_,rfl⟩
  have HM:=hZ hm;rw [hm] at le hl ⊢;clear hm;obtain ⟨i0,hi,hz0,hz1,hz2⟩:=info_parts act_info;go_enter Tryz.func31,Tryz.ntmps31
  go_wp2_with fail
  go_loopg [3,4] m (fun g s i wr=>∃ (j:Nat) (p:Option Addr) (c:Nat),j<=m/\m-j<=g/\i = .int .i64 j/\s = .slice p j c/\Hid (ActsRow w wr p c j acts))
  case atStart=>exact ⟨0,none,0,Nat.zero_le _,by omega,rfl,rfl,hZ ⟨exx,[],World.ownsRow_nil w _ _ _,fun k x hk=>by omega⟩⟩
  case round=>
   obtain ⟨j,p,c,hj,hg,rfl,rfl,R⟩:=hrel
   by_cases hlt:j < m
   . obtain ⟨x,hx⟩:∃ x,acts[j]? = some x:=⟨acts[j]'(by rw [HM.out];exact hlt),List.getElem?_eq_getElem _⟩
     obtain ⟨bb,oo,rfl,hbb,hc⟩:=(HA.out.ext R.out.ext0).cells (by rw [HM.out];omega);obtain ⟨q',c',f,ok,a0,a1,a2,a3,a4,hs⟩:=hc j x hx;have tk:decide ((j:Int) < (m:Int))=true:=dT;have hnil:=HN.out.ext HW.out R.out.ext0 bb oo j x q' c' rfl hx a2;have hx14:=HL2.out x (List.mem_of_getElem? hx);have HX:=hZ hx;have HOK:=hZ ok;have HS:=hZ hs;have xc:=hs.le;clear hc hx ok hs;have EA:Ext wr (wr.alloc (.cells #[.int .u8 x.kind,.int .i64 x.a,.slice q' x.list.length c',.int .u8 f,.int .i64 x.n] 85)):=Ext.alloc (Ext.refl _) _;have IA:=hZ (ints_any (HS.out.ext EA) hnil (by omega));go_upto_region 7 with (go_at_call 17;refine IA.out.mono ?_;rintro e w1 ⟨q2,c2,rfl,hR2,hb1,_⟩;obtain ⟨hc1,hf1,hs1⟩:=hb1.cells;have hz1':wr.heap.size < w1.heap.size:=(by have h:=hb1.le;(try simp at h);omega);have hc10:=hb1.cell (b:=wr.heap.size) (by simp);have hf10:=hb1.frozen (b:=wr.heap.size) (by simp))
     have RF:=hZ (show ∀ b o,q2=some ⟨b,o,none⟩->wr.heap.size+1<=b from fun b o e=>by have:=hR2.far e;simpa using this)
     have pf:∀ b o,p=some ⟨b,o,none⟩->b < wr.heap.size:=fun b o e=>by
      obtain ⟨xs0,o1,_⟩:=R.out.own
      rcases o1.2 with ⟨e',_⟩ | ⟨g',cap',cur',e',hb',hg',_⟩
      . injection e' with e1
        rw [e1] at e
        cases e
      injection e' with e1
      rw [e1] at e
      cases e
      exact (Array.getElem?_eq_some_iff.1 hg').1
     have PF:=hZ pf;have SA:=hZ hR2.at_;have SL:=hZ (show ∀ b o,q2=some ⟨b,o,none⟩->b < w1.heap.size from fun b o e=>hR2.lt e);clear pf hR2 hnil;go_upto_region 4 with (at_builtin;refine cut_worldL (F:=fun W=>ActsRow w W p c j acts/\SliceAt W q2 c2 x.list/\w1.heap.size+1=W.heap.size/\W.cell? ⟨w1.heap.size,0,none⟩=some (.int .u8 x.kind)/\W.cell? ⟨w1.heap.size,1,none⟩=some (.int .i64 x.a)/\W.cell? ⟨w1.heap.size,2,none⟩=some (.slice q2 x.list.length c2)/\W.cell? ⟨w1.heap.size,3,none⟩=some (.int .u8 f)/\W.cell? ⟨w1.heap.size,4,none⟩=some (.int .i64 x.n)) ⟨R.out.ext (exx),SA.out.but (((But.refl [wr.heap.size] _).setCell (.inl (by simp)) _).alloc _) (fun b o e hm=>by have:=RF.out b o e;have:b=wr.heap.size:=(by simpa using hm);omega),by simp,by go_simp,by go_simp,by go_simp,by go_simp,by go_simp⟩ ?_;rintro w2 ⟨R2,SA2,zz,n0,n1,n2,n3,n4⟩;obtain ⟨xs,own1,each1⟩:=R2.own;refine wpList_append_lies w2 rfl _ _ 23 rfl w.heap.size 85 i0 _ 5 56 Tryz.underlying23 hi hz0 hz1 hz2 rfl (by decide) (.slice p j c) j xs rfl own1 ⟨w1.heap.size,0,none⟩ 1 1 [.int .u8 x.kind,.int .i64 x.a,.slice q2 x.list.length c2,.int .u8 f,.int .i64 x.n] rfl (by simp) (news5 n0 n1 n2 n3 n4) (by simp [Value.oneCell']) (by omega) (by unfold maxLen;omega) (by omega) (R2.ext0.le) _ rfl ?_;intro g5 cap5 w3 hown hgrow hor hlt5;obtain ⟨p',c5,e5,R3⟩:=ActsRow.grow R2.ext0 own1 each1 HX.out HOK.out SA2 (fun b o e=>⟨by have:=SL.out b o e;omega,fun o' e'=>by have:=RF.out b o e;have:=PF.out b o' e';omega⟩) hown hgrow (fun g cap e=>by cases e;exact hor.imp (row_block own1 g5) id);cases e5;have R4:=hZ R3)
     go_wp2_with fail
     go_roundg (m-(j+1))
     case measure=>omega
     case rel=>exact ⟨j+1,some ⟨g5,0,none⟩,cap5,by omega,Nat.le_refl _,by go_num,rfl,R4⟩
   have:j=m:=by omega
   subst this;have tk:decide ((j:Int) < (j:Int))=false:=dF
   go_wp2_with fail
   go_returns;have hr:=R.out;rw [<- HM.out] at hr;exact ⟨p,c,by rw [HM.out];rfl,hr.at_,hr.ext0⟩
open Go.ChangeShapes Go.WideShapes Go.ChangeAt Go.RowKit Go.Joins
theorem own:ownKnob Tryz.prog.godebug=none:=by kernel_rfl
theorem kids:Kids Tryz.prog (· < Tryz.prog.types.size):=kids_rows (by kernel_rfl) (by kernel_rfl)
theorem full:∀ t e,t < Tryz.prog.types.size->Tryz.prog.underlying t=some (.slice e)->0 < Tryz.prog.cellsOf e:=slices_full_of _ (by kernel_rfl)
theorem same_at {W:World} (he:Ext W W') {p:MemPlace} (hp:p.block < W.heap.size):W.sameAt W' p:=by
 cases p with
 | cell b off=>exact he.cell hp off
 | map b=>exact he.block b hp
theorem args_again {H:Type} {enc:TypeId × Value->H} {W:World} (he:Ext W W') {sp:Nat->Bool}:∀ {ts:List TypeId} {vs:List Value} {ds:List (DataW H)} {ps:List MemPlace},(∀ t ∈ ts,t < Tryz.prog.types.size)->DataW.TrodAll enc Tryz.prog W 0 (fun _=>true) true ts vs ds ps ->
    (∀ p ∈ ps,p.block < W.heap.size)->(∀ p ∈ ps,sp p.block=true)->DataW.TrodAll enc Tryz.prog W' 0 sp true ts vs ds ps:=by
  intro ts vs ds ps hT h hlt hs;refine DataW.TrodAll.respare kids full hT ?_ hs;clear hs hT
  induction ts generalizing vs ds ps with
  | nil=>match vs,ds,h with
   | [],[],h=>exact h
  | cons t ts ih=>match vs,ds,h with
   | v :: vs,d :: ds,⟨p,q,⟨n,h1⟩,h2,e⟩=>
    subst e;exact ⟨p,q,⟨n,DataW.trod_carry n _ _ _ h1 (fun x hx=>same_at he (hlt x (List.mem_append_left _ hx)))⟩,ih h2 (fun x hx=>hlt x (List.mem_append_right _ hx)),rfl⟩
theorem post_ext {H:Type} {enc:TypeId × Value->H} {P:Program} {f:Func} {s:ChangeSpec} {W:World} {args:Array Value} {v:Value} {ds gs:List (DataW H)} {before pa pv:List MemPlace}
    (hW:DataW.Whole enc P f.params.toList s.vars false W args.toList ds gs before)
    (hres:∀ (b:Nat) (sp:Nat->Bool) (hd:Bool),DataW.TrodAll enc P W' b sp hd f.resultTypes.toList (v.resultList f.resultTypes.size) (s.fn H (ds ++ gs)).results [])
    (hargs:∀ sp:Nat->Bool,(∀ p ∈ before,sp p.block=true)->DataW.TrodAll enc P W' 0 sp true f.params.toList args.toList (s.fn H (ds ++ gs)).args pa)
    (hvars:∀ sp:Nat->Bool,(∀ p ∈ before,sp p.block=true)->DataW.TrodVars enc P W' sp s.vars (s.fn H (ds ++ gs)).vars pv)
    (hps:before=pa ++ pv) (hb:Ext W W'):s.post enc P f false true false false W args v W':=by
  have hold:∀ p ∈ before,(fun b=>decide (b < W.heap.size)) p.block=true:=fun p hp=>by simpa using hW.lt p hp
  refine ⟨ds,gs,before,[],pa,pv,hW,hres _ _ _,hargs _ hold,hvars _ hold,World.keptBut_mono (fun p hp=>⟨hp, ?_⟩) (Below.frame hb (· ∈ before)),fun h=>by cases h⟩;rw [hps,List.mem_append] at hp;exact Or.inr hp
theorem cellsOf_I:Tryz.prog.cellsOf 3=1:=by kernel_rfl
theorem cellsOf_B:Tryz.prog.cellsOf 5=1:=by kernel_rfl
theorem cellsOf_L:Tryz.prog.cellsOf 22=1:=by kernel_rfl
theorem cellsOf_V:Tryz.prog.cellsOf 43=2:=by kernel_rfl
theorem cellsOf_A:Tryz.prog.cellsOf 85=5:=by kernel_rfl
section
variable {H:Type} {enc:TypeId × Value->H} {w:World} {base:Nat} {held:Bool}
theorem open_ints {fuel:Nat} {v:Value} {y:DataW H × List MemPlace} (h:DataW.trod enc Tryz.prog w base (fun _=>true) held fuel 22 [v]=some y):∃ (q:Option Addr) (c:Nat) (l:List Int),v = .slice q l.length c/\SliceAt w q c l/\(q=none->c=0):=by
 rcases Go.Deep.open_slice1 Tryz.underlying22 cellsOf_I h with ⟨hcs,-⟩ | ⟨a,len,cap,m,n,V,D,Pl,hcs,hb,hl,hm,hmm,hx,hi⟩
 . exact ⟨none,0,[],(List.cons.inj hcs).1,⟨by simp,by omega,by simp,fun h=>by simp at h⟩,fun _=>rfl⟩
 have hcs:=(List.cons.inj hcs).1
 simp only [if_true] at hmm
 subst hmm
 have num:∀ i,i < m -> ∃ z:Int,V i = .int .i64 z /\ -9223372036854775808<=z/\z<=9223372036854775807:=fun i h=>by
  obtain ⟨-,h2⟩:=hi i h;obtain ⟨f,e0,_,wf0⟩:=DataW.trod_int Tryz.underlying3 h2;simp at e0;exact ⟨f,e0,bounds_i64 wf0⟩
 obtain ⟨z,hz⟩:∃ z:Nat->Int,∀ i,i < m->V i = .int .i64 (z i) /\ -9223372036854775808<=z i/\z i<=9223372036854775807:=
  ⟨fun i=>if h:i < m then (num i h).choose else 0,fun i h=>by simp only [dif_pos h];exact (num i h).choose_spec⟩
 refine ⟨some a,m,(List.range len).map z,by simpa using hcs,⟨by simpa using hl,by unfold maxLen at hm;omega,fun x hx=>?_,fun h0=>?_⟩,fun h=>by cases h⟩
 . obtain ⟨i,hi',rfl⟩:=List.mem_map.1 hx;have:=List.mem_range.1 hi';exact (hz i (by omega)).2
 simp only [List.length_map,List.length_range] at h0
 obtain ⟨b,off,spot⟩:=a
 have hspot:spot=none:=by simpa [Addr.add] using World.cell?_spot (hi 0 (by omega)).1
 subst hspot
 have key:∀ j,j < len->w.cell? ⟨b,off+j,none⟩=some (.int .i64 (z j)):=fun j hj=>by
  have:=(hi j (by omega)).1;rw [(hz j (by omega)).1,Addr.add_lit] at this;exact this
 refine ⟨b,off,rfl,cell_lt (key 0 h0),fun j x hx=>?_⟩
 have hj:=rd_lt hx
 simp only [List.length_map,List.length_range] at hj
 have:z j=x:=by simpa [Hp.rd,hj] using hx
 rw [<- this]
 exact key j hj
theorem open_acts {fuel:Nat} {v:Value} {y:DataW H × List MemPlace} (h:DataW.trod enc Tryz.prog w base (fun _=>true) held fuel 23 [v]=some y):∃ (pa:Option Addr) (ca:Nat) (acts:List Hp.Act'),v = .slice pa acts.length ca/\ActsW w pa ca acts/\NilActs w pa acts:=by
 rcases Go.Deep.open_slice Tryz.underlying23 h with ⟨hcs,-⟩ | ⟨a,len,cap,m,n,D,Pl,hcs,hb,hl,hm,hmm,hx,hi⟩
 . exact ⟨none,0,[],(List.cons.inj hcs).1,⟨by simp,by omega,fun h=>by simp at h⟩,fun b o j x q c hp=>by cases hp⟩
 have hcs:=(List.cons.inj hcs).1
 simp only [if_true] at hmm
 subst hmm
 rw [cellsOf_A] at hi
 have num:∀ i,i < m -> ∃ (x:Hp.Act'),∃ (q:Option Addr) (c f:Nat),ActOk { x with list:=[] } f/\w.cell? (a.add (i * 5))=some (.int .u8 x.kind)/\w.cell? (a.add (i * 5+1))=some (.int .i64 x.a)/\w.cell? (a.add (i * 5+2))=some (.slice q x.list.length c)/\w.cell? (a.add (i * 5+3))=some (.int .u8 f)/\w.cell? (a.add (i * 5+4))=some (.int .i64 x.n)/\SliceAt w q c x.list/\(q=none->c=0):=fun i h=>by
  obtain ⟨cs,hc,ht⟩:=hi i h;obtain ⟨_,hlen,hcell⟩:=World.cells?_some hc
  match cs,hlen with
  | [c0,c1,c2,c3,c4],_=>
   obtain ⟨xs,k,-,-,-,hxl,hf⟩:=DataW.trod_struct Tryz.underlying85 ht;have f0:DataW.trod enc Tryz.prog w base (fun _=>true) held k 5 (([c0,c1,c2,c3,c4].drop 0).take (Tryz.prog.cellsOf 5))=xs[0]? := hf 0 _ rfl;rw [cellsOf_B] at f0;have f1:DataW.trod enc Tryz.prog w base (fun _=>true) held k 3 (([c0,c1,c2,c3,c4].drop 1).take (Tryz.prog.cellsOf 3))=xs[1]? := hf 1 _ rfl;rw [cellsOf_I] at f1;have f2:DataW.trod enc Tryz.prog w base (fun _=>true) held k 22 (([c0,c1,c2,c3,c4].drop 2).take (Tryz.prog.cellsOf 22))=xs[2]? := hf 2 _ rfl;rw [cellsOf_L] at f2;have f3:DataW.trod enc Tryz.prog w base (fun _=>true) held k 43 (([c0,c1,c2,c3,c4].drop 3).take (Tryz.prog.cellsOf 43))=xs[3]? := hf 3 _ rfl;rw [cellsOf_V] at f3;simp only [List.drop_succ_cons,List.drop_zero,List.take_succ_cons,List.take_zero] at f0 f1 f2 f3;clear hf;have hxl4:xs.length=4:=hxl;have fin:∀ j,j < 4 -> ∃ y,xs[j]? = some y:=fun j hj=>⟨_,List.getElem?_eq_getElem (by omega)⟩
   obtain ⟨y0,g0⟩:=fin 0 (by omega);obtain ⟨y1,g1⟩:=fin 1 (by omega);obtain ⟨y2,g2⟩:=fin 2 (by omega);obtain ⟨y3,g3⟩:=fin 3 (by omega);rw [g0] at f0;rw [g1] at f1;rw [g2] at f2;rw [g3] at f3;obtain ⟨k0,e0,_,w0⟩:=DataW.trod_int Tryz.underlying5 f0;obtain ⟨k1,e1,_,w1⟩:=DataW.trod_int Tryz.underlying3 f1;obtain ⟨q,c,l,e2,hs,hn⟩:=open_ints f2;obtain ⟨z0,z1,n',-,_,h0,h1⟩:=trod_struct2 Tryz.underlying43 f3;obtain ⟨k3,e3,_,w3⟩:=DataW.trod_int Tryz.underlying5 h0;obtain ⟨k4,e4,_,w4⟩:=DataW.trod_int Tryz.underlying3 h1;rw [cellsOf_B] at e3;rw [cellsOf_I] at e4;simp at e0 e1 e3 e4;subst e0 e1 e2 e3 e4;obtain ⟨b0,b1⟩:=bounds_u8 w0;obtain ⟨b2,b3⟩:=bounds_i64 w1;obtain ⟨b4,b5⟩:=bounds_u8 w3;obtain ⟨b6,b7⟩:=bounds_i64 w4;have cl:∀ (i2:Nat) (u:Value),[Value.int .u8 k0,.int .i64 k1,.slice q l.length c,.int .u8 k3,.int .i64 k4][i2]? = some u->w.cell? ((a.add (i * 5)).add i2)=some u:=fun i2 u hu=>by
    rw [hcell i2 (by have:=(List.getElem?_eq_some_iff.1 hu).1;simpa using this)]
    exact hu
   refine ⟨⟨k0,k1,l,k3,k4⟩,q,c,k3.toNat,⟨b0,by show k3=_;omega,by omega,b6,b7,b2,b3,by simp⟩, ?_, ?_, ?_, ?_, ?_,hs,hn⟩
   . have:=cl 0 _ rfl
     rwa [Go.Deep.add_add] at this
   . have:=cl 1 _ rfl
     rwa [Go.Deep.add_add] at this
   . have:=cl 2 _ rfl
     rwa [Go.Deep.add_add] at this
   . have:=cl 3 _ rfl;rw [Go.Deep.add_add] at this;rw [this,show ((k3.toNat:Nat):Int)=k3 by omega]
   have:=cl 4 _ rfl
   rwa [Go.Deep.add_add] at this
 obtain ⟨z,hz⟩:∃ z:Nat->Hp.Act',∀ i,i < m -> ∃ (q:Option Addr) (c f:Nat),ActOk { z i with list:=[] } f/\w.cell? (a.add (i * 5))=some (.int .u8 (z i).kind)/\w.cell? (a.add (i * 5+1))=some (.int .i64 (z i).a)/\w.cell? (a.add (i * 5+2))=some (.slice q (z i).list.length c)/\w.cell? (a.add (i * 5+3))=some (.int .u8 f)/\w.cell? (a.add (i * 5+4))=some (.int .i64 (z i).n)/\SliceAt w q c (z i).list/\(q=none->c=0):=
  ⟨fun i=>if h:i < m then (num i h).choose else ⟨0,0,[],0,0⟩,fun i h=>by simp only [dif_pos h];exact (num i h).choose_spec⟩
 have zl:∀ (j:Nat) (x:Hp.Act'),((List.range len).map z)[j]? = some x->j < len/\x=z j:=fun j x hx=>by
  have hj:j < len:=by simpa using (List.getElem?_eq_some_iff.1 hx).1
  exact ⟨hj,by simpa [hj,eq_comm] using hx⟩
 refine ⟨some a,m,(List.range len).map z,by simpa using hcs,⟨by simpa using hl,by unfold maxLen at hm;omega,fun h0=>?_⟩,fun b o j x q c hp hx hc hq=>?_⟩
 . simp only [List.length_map,List.length_range] at h0;obtain ⟨b,off,spot⟩:=a;have hspot:spot=none:=by
    obtain ⟨_,_,_,_,h1,_⟩:=hz 0 (by omega)
    simpa [Addr.add] using World.cell?_spot h1
   subst hspot;refine ⟨b,off,rfl, ?_,fun j x hx=>?_⟩
   . obtain ⟨_,_,_,_,h1,_⟩:=hz 0 (by omega);rw [Addr.add_lit] at h1;exact cell_lt h1
   obtain ⟨hj,rfl⟩:=zl j x hx;obtain ⟨q,c,f,h1,h2,h3,h4,h5,h6,h7,_⟩:=hz j (by omega);rw [Addr.add_lit] at h2 h3 h4 h5 h6;exact ⟨q,c,f,h1,h2,h3,h4,h5,h6,h7⟩
 obtain ⟨hj,rfl⟩:=zl j x hx
 cases hp
 obtain ⟨q',c',f,h1,h2,h3,h4,h5,h6,h7,h8⟩:=hz j (by omega)
 have:w.cell? ⟨b,o+j * 5+2,none⟩=some (.slice q' (z j).list.length c'):=by
  rw [Addr.add_lit] at h4;exact h4
 rw [this] at hc
 cases hc
 exact h8 hq
set_option maxRecDepth 100000 in
theorem open_S {r:Reach} {b0:Nat} {v:Value} {d:DataW H} {p:List MemPlace} (hv:Value.okWide Tryz.prog w r b0 25 v) (h:DataW.Trod enc Tryz.prog w base (fun _=>true) held 25 v d p) :
    ∃ (sp op pa:Option Addr) (sc oc ca:Nat) (z o:List Int) (n:Int) (acts:List Hp.Act'),v = .agg #[.slice sp z.length sc,.slice op o.length oc,.int .i64 n,.slice pa acts.length ca]/\SAt w sp sc op oc pa ca z o acts /\ -9223372036854775808<=n/\n<=9223372036854775807:=by
  obtain ⟨c0,c1,c2,c3,y0,y1,y2,y3,m,rfl,-,-,h0,h1,h2,h3⟩:=open_agg4 Tryz.underlying25 (by kernel_rfl) (by kernel_rfl) hv h;obtain ⟨sp,sc,z,rfl,s0,n0⟩:=open_ints h0;obtain ⟨op,oc,o,rfl,s1,n1⟩:=open_ints h1;obtain ⟨n,e2,_,wf⟩:=DataW.trod_int Tryz.underlying3 h2;obtain ⟨pa,ca,acts,rfl,s3,n3⟩:=open_acts h3;simp at e2;subst e2;exact ⟨sp,op,pa,sc,oc,ca,z,o,n,acts,rfl,⟨n3,s0,s1,s3,n0,n1⟩,bounds_i64 wf⟩
end
end Go.Proofs.YtdokmmhjmclmnaaGreat
