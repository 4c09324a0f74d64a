/- Part 6 of a proof. -/
import Derived.Deep.OwnRows
import Derived.Test.YtdokmmhjmclmnaaGreatMU05
set_option linter.unusedSimpArgs false
set_option linter.unusedVariables false
set_option linter.unusedSectionVars false
set_option linter.unnecessarySimpa false
set_option maxHeartbeats 4000000
set_option maxRecDepth 100000
namespace Go.Proofs.YtdokmmhjmclmnaaGreat
open Go.Proofs.Tryz
variable {W' w w' w0 wb:World} {B a b bx c ca cap ce cn f g i j k lb m n qc:Nat} {choice e t x:Int} {A W fs ks l o z:List Int} {D T Y:List Nat} {p p2 pa pe pn q:Option Addr} {d:Hd} {S S':Hp.Hs} {M:List (Nat × Int)}
namespace Hp
def insI (x:Int):List Int->List Int
 | []=>[x]
 | y :: r=>if x<=y then x :: y :: r else y :: insI x r
def Z9a:List Int->List Int
 | []=>[]
 | x :: r=>insI x (Z9a r)
def upto (n:Nat):List Int:=(List.range n).map fun x:Nat=>(x:Int)
def A2a (sizes order:List Int):Int:=
 if sizes.length > 6 then 5 else
 if sizes.all (fun n=>decide (1<=n) && decide (n<=12))=false then 3 else
 if sizes.foldl (· * ·) 1 > 2000 then 5 else
 if Z9a order=upto sizes.length then 0 else 4
def G1a (sizes order:List Int) (words:Int):Int:=
 if A2a sizes order ≠ 0 then A2a sizes order else if within 32 40000 words then 0 else 3
end Hp
open Go.RowKit Go.Maps Go.Sort Go.Shelf
theorem g6a (x:Int):∀ l:List Int,(Hp.insI x l).Perm (x :: l)
 | []=>List.Perm.refl _
 | y :: r=>by
  unfold Hp.insI
  split
  . exact List.Perm.refl _
  exact ((g6a x r).cons y).trans (List.Perm.swap x y r)
theorem K3a:∀ l:List Int,(Hp.Z9a l).Perm l
 | []=>List.Perm.refl _
 | x :: r=>(g6a x _).trans ((K3a r).cons x)
theorem j6a (x:Int):∀ {l:List Int},l.Pairwise (· <= ·)->(Hp.insI x l).Pairwise (· <= ·)
 | [],_=>by simp [Hp.insI]
 | y :: r,h=>by
  obtain ⟨h1,h2⟩:=w3b.1 h;unfold Hp.insI
  split
  . rename_i hxy;refine w3b.2 ⟨fun z hz=>?_,h⟩
    rcases E6c.1 hz with rfl | hz
    . exact hxy
    exact G7c hxy (h1 z hz)
  rename_i hxy;refine w3b.2 ⟨fun z hz=>?_,j6a x h2⟩
  rcases E6c.1 ((g6a x r).mem_iff.1 hz) with rfl | hz
  . omega
  exact h1 z hz
theorem U5a:∀ l:List Int,(Hp.Z9a l).Pairwise (· <= ·)
 | []=>List.Pairwise.nil
 | x :: r=>j6a x (U5a r)
theorem v6a (l:List Int):l.mergeSort (fun x y=>decide (x<=y))=Hp.Z9a l:=by
 refine List.Perm.eq_of_pairwise (le:=fun a b:Int=>a<=b) (fun a b _ _ h1 h2=>by omega) ?_ (U5a l) ((List.mergeSort_perm _ _).trans (K3a l).symm)
 have:=List.pairwise_mergeSort (le:=fun x y:Int=>decide (x<=y)) (fun a b c h1 h2=>by simp at *;omega) (fun a b=>by simp;omega) l
 exact this.imp fun h=>by simpa using h
theorem T6a (l:List Int):(Hp.Z9a l).length=l.length:=(K3a l).length_eq
def Z7b (w:World) (base:Nat) (p:Option Addr) (c:Nat) (l:List Int) (e:Ending) (w':World):Prop:=e = .returned (.tuple #[])/\Row w' base p c (Hp.Z9a l) /\ ∃ row,w.grownBy w' row /\ ∀ r,row=some r->base<=r
theorem Y4b {base:Nat} (h:Row w base p c l) (hlen:l.length<=1000000):Calls prog 163 #[.slice p l.length c] w (Z7b w base p c l):=by
 rcases h.1.2 with ⟨e,hz⟩ | ⟨g,cap,cur,e,h1,hg,r1,r2,r3,r4⟩
 . injection e with e1 e2 e3
   have:l=[]:=p8b hz;subst this;subst e1;refine (AnyM.slices_Sort_int_none Tryz.sortA none c w).mono ?_;rintro e w' ⟨rfl,rfl⟩;exact ⟨rfl,by simpa [Hp.Z9a] using h,none,World.grownBy.refl _ _,fun r hr=>by cases hr⟩
 injection e with e1 e2 e3
 subst e1 e3
 have hH:Holds encZ w g 0 l.toArray:=holds_of_block_i hg (by simpa [ints,encZ] using r4)
 have hgl:g < w.heap.size:=(q4b.1 hg).1
 refine (AnyM.slices_Sort_int Tryz.sortA g 0 c l w hH hgl (by omega)).mono ?_
 rintro e w' ⟨rfl,n,os,rfl⟩
 rw [v6a]
 refine ⟨rfl,⟨?_,fun x hx=>h.2 x ((K3a l).mem_iff.1 hx)⟩,some g,grownBy_sorted_i _,fun r hr=>by cases hr;exact h1⟩
 have:=ownsRow_sorted_i (n:=n) (os:=os) (T6a l) h1 hg r1 r2 r3
 rw [T6a]
 simpa [ints,encZ] using this
theorem z1a {b1 b2:Nat} {least most n:Int} (h1:w.cell? ⟨b1,0,none⟩=some (.int .i64 least)) (h2:w.cell? ⟨b2,0,none⟩=some (.int .i64 most)) :
    Calls prog 185 #[.int .i64 n,.pointer (some ⟨b1,0,none⟩),.pointer (some ⟨b2,0,none⟩)] w (Rt w (.bool (!(decide (least<=n) && decide (n<=most))))):=by
  by_cases c1:n < least
  . have e:(!(decide (least<=n) && decide (n<=most)))=true:=by simp;omega
    rw [e];clear e;go_enter func185,ntmps185;go_wp2
    all_goals go_returns
    exact ⟨rfl,exx⟩
  by_cases c2:n > most
  . have e:(!(decide (least<=n) && decide (n<=most)))=true:=by simp;omega
    rw [e];clear e;have c3:decide (n < least)=false:=by simpa using c1
    go_enter func185,ntmps185;go_wp2
    all_goals go_returns
    exact ⟨rfl,exx⟩
  have e:(!(decide (least<=n) && decide (n<=most)))=false:=by simp;omega
  rw [e];clear e;have c3:decide (n < least)=false:=by simpa using c1
  have c4:decide (n > most)=false:=by simpa using c2
  go_enter func185,ntmps185;go_wp2
  all_goals go_returns
  exact ⟨rfl,exx⟩
theorem K1a {least most:Int} {b:Bool} (h:SliceAt w p c l) (hb:l.all (fun n=>decide (least<=n) && decide (n<=most))=b) :
    Calls prog 165 #[.int .i64 least,.int .i64 most,.slice p l.length c] w (Rt w (.bool b)):=by
  rw [C3b] at hb;have key:∀ t1 t2,Says ((w.alloc (.cells #[.int .i64 least] t1)).alloc (.cells #[.int .i64 most] t2)) 185 #[] #[.pointer (some ⟨w.heap.size,0,none⟩),.pointer (some ⟨w.heap.size+1,0,none⟩)] l (fun n=>!(decide (least<=n) && decide (n<=most))):=by
   intro t1 t2 j x hx _ W hW;have g1:W.cell? ⟨w.heap.size,0,none⟩=some (.int .i64 least):=by
    rw [hW.cell (by simp;omega) 0];go_simp
   have g2:W.cell? ⟨w.heap.size+1,0,none⟩=some (.int .i64 most):=by
    rw [hW.cell (by simp) 0];go_simp
   have:=z1a (n:=x) g1 g2
   simpa using this
  have H:=hZ h;have K:=hZ key;generalize hq:(l.any fun x=>!(decide (least<=x) && decide (x<=most)))=b0 at hb;have HQ:=hZ hq;clear h key hq;subst hb;go_enter func165,ntmps165
  go_wp2_with (go_at_call 167;refine m4_ (J7a (enters_of func185 (by kernel_rfl) rfl) (H.out.ext (exx)) (K.out _ _) HQ.out) fun w1 hb1 hc1 hf1 hs1=>?_)
  go_returns;exact ⟨rfl,exx⟩
open Go.RowKit Go.Maps
def filled (n j:Nat):List Int:=Hp.upto j ++ List.replicate (n-j) 0
theorem m3a (h:j<=n):(filled n j).length=n:=by simp [filled,Hp.upto];omega
theorem C0b (h:j < n):Hp.wr (filled n j) j (j:Int)=some (filled n (j+1)):=by
 unfold Hp.wr
 rw [H5c (by rw [m3a (by omega)];exact h)]
 congr 1
 unfold filled
 rw [t5b _ _ (by simp [Hp.upto])]
 have e1:j-(Hp.upto j).length=0:=by simp [Hp.upto]
 rw [e1,show n-j=(n-(j+1))+1 by omega,v3b,w6b]
 unfold Hp.upto
 rw [List.range_succ,C5c]
 simp
theorem D9b (n:Nat):filled n n=Hp.upto n:=by simp [filled]
def i9b (w:World) (n:Nat) (e:Ending) (w':World):Prop:=∃ g,e = .returned (.slice (some ⟨g,0,none⟩) n n)/\SliceAt w' (some ⟨g,0,none⟩) n (Hp.upto n)/\Ext w w'
theorem V0a (w:World) (n:Nat):A3a (w.alloc (.cells (madeCells #[.int .i64 0] n) 3)) w.heap.size (List.replicate n 0):=by
 refine ⟨⟨[], ?_⟩,fun x hx=>by rw [r4b hx];omega⟩
 rw [E7b]
 congr 2
 apply Array.ext
 . simp [ints,size_madeCells]
 intro i h1 h2
 have hi:i < n:=by simpa [size_madeCells] using h1
 simp [madeCells,ints,hi,Nat.mod_one]
theorem j7a (hn:n<=1000):Calls prog 166 #[.int .i64 n] w (i9b w n):=by
 have hmk:=run_make_row' (P:=prog) 22 3 (.int .i64 0) 8 underlying22 (show (prog.info? 3).map (fun i=>(i.zero,i.size,i.bytes))=some (some (.int .i64 0),1,8) from by kernel_rfl) rfl .i64 .i64 n (by omega) (by omega)
 go_enter func166,ntmps166
 go_wp2_with fail
 clear hmk
 have W0:=hZ (show A3a (w.alloc (.cells (madeCells #[.int .i64 0] n) 3)) w.heap.size (filled n 0) by simpa [filled,Hp.upto] using V0a w n)
 have E0:Ext w (w.alloc (.cells (madeCells #[.int .i64 0] n) 3)):=exx
 generalize (w.alloc (.cells (madeCells #[.int .i64 0] n) 3))=w1 at W0 E0 ⊢
 have E0':=hZ E0
 clear E0
 go_loopg [8] n (fun g i wr=>∃ j:Nat,j<=n/\n-j<=g/\i = .int .i64 j/\Hid (A3a wr w.heap.size (filled n j))/\Hid (Ext w wr))
 case atStart=>exact ⟨0,G9c _,by omega,rfl,W0,E0'⟩
 case round=>
  obtain ⟨j,hj,hg,rfl,W,E⟩:=hrel;clear W0 E0'
  by_cases hlt:j < n
  . obtain ⟨y,hy⟩:=A4a (l:=filled n j) (j:=j) (by rw [m3a hj];exact hlt);have g1:=W.out.get hy;have f1:=W.out.froz j;have W1:=hZ (W.out.set (C0b hlt) (by omega) (by omega));have E1:=hZ (Ext.setCell E.out (p:=⟨w.heap.size,j,none⟩) (H0c _) (.int .i64 j));clear hy
    go_wp2_with fail
    go_roundg (n-(j+1))
    case measure=>omega
    case rel=>exact ⟨j+1,by omega,H0c _,by go_num,W1,E1⟩
  have:j=n:=by omega
  subst this
  go_wp2_with fail
  go_returns;have h1:=W.out;rw [D9b] at h1;have hl:(Hp.upto j).length=j:=by simp [Hp.upto]
  exact ⟨w.heap.size,rfl,⟨by rw [hl];exact H0c _,by omega,h1.wf,fun _=>⟨w.heap.size,0,rfl,h1.lt,fun i x hx=>by rw [G4c];exact h1.get hx⟩⟩,E.out⟩
theorem upto_length (n:Nat):(Hp.upto n).length=n:=by simp [Hp.upto]
theorem M0a {row:Option Nat} (h:Ext w0 w) (k:w.grownBy w' row) (hr:∀ g,row=some g->w0.heap.size<=g):Ext w0 w':=
 But.D3a (Ext.refl w0) (I0b (But.E7a (l:=[]) h) k hr) (by simp)
def t8a (l:List Int):Int:=l.foldl (· * ·) 1
theorem O8b (l:List Int) (x:Int):t8a (l ++ [x])=t8a l * x:=by simp [t8a,z0b]
theorem b8a (h:Hp.rd l j=some x):l.take (j+1)=l.take j ++ [x]:=by
 obtain ⟨hl,rfl⟩:=q5b.1 h
 exact p5b hl
theorem m3b (h:j<=6):(12:Int) ^ j<=2985984:=by
 have hh:j=0 \/ j=1 \/ j=2 \/ j=3 \/ j=4 \/ j=5 \/ j=6:=by omega
 rcases hh with rfl | rfl | rfl | rfl | rfl | rfl | rfl <;> decide
theorem y9a {d:Nat} {sizes order:List Int} (hs:SliceAt w p c sizes) (ho:SliceAt w q d order) (hq:0 < order.length \/ q=none) (hol:order.length<=1000000) :
    Calls prog 121 #[.slice p sizes.length c,.slice q order.length d] w (Rt w (.int .i64 (Hp.A2a sizes order))):=by
  have HS:=hZ hs;have HO:=hZ ho;have hsc:=hs.le;have hscc:=hs.cap;clear hs ho
  by_cases h6:sizes.length > 6
  . have e:Hp.A2a sizes order=5:=by unfold Hp.A2a;rw [H5c h6]
    rw [e];clear e;go_enter func121,ntmps121
    go_wp2_with fail
    go_returns;exact ⟨rfl,exx⟩
  cases hall:sizes.all (fun n=>decide (1<=n) && decide (n<=12)) with
  | false=>
   have e:Hp.A2a sizes order=3:=by unfold Hp.A2a;rw [H4c h6,H5c hall]
   rw [e];have HA:=hZ hall;clear e hall;go_enter func121,ntmps121
   go_wp2_with (go_at_call 165;refine m4_ (K1a HS.out HA.out) fun w1 hb1 hc1 hf1 hs1=>?_)
   go_returns;exact ⟨rfl,exx⟩
  | true=>
   have e:Hp.A2a sizes order=if t8a sizes > 2000 then 5 else if Hp.Z9a order=Hp.upto sizes.length then 0 else 4:=by
    unfold Hp.A2a t8a;rw [H4c h6,H4c (by rw [hall];simp)]
   rw [e];have HA:=hZ hall;obtain ⟨ee,hee⟩:∃ ee,(if t8a sizes > 2000 then 5 else if Hp.Z9a order=Hp.upto sizes.length then 0 else 4:Int)=ee:=⟨_,rfl⟩
   rw [hee];have HE:=hZ hee;clear e hall hee;obtain ⟨n,hn⟩:∃ n,sizes.length=n:=⟨_,rfl⟩
   have HN:=hZ hn;rw [hn] at h6 hsc ⊢;clear hn;go_enter func121,ntmps121
   go_wp2_with (go_at_call 165;refine m4_ ((HN.out ▸ K1a HS.out HA.out)) fun w1 hb1 hc1 hf1 hs1=>?_)
   have E1:=hZ hb1;clear hb1 hc1 hf1 hs1
   go_loopg [5,19] n (fun g s i wr=>∃ (j:Nat) (m:Int),j<=n/\n-j<=g/\i = .int .i64 j/\s = .int .i64 m/\0<=m/\Hid (m<=(12:Int) ^ j)/\Hid (m=t8a (sizes.take j))/\Hid (Ext w wr))
   case atStart=>exact ⟨0,1,G9c _,by omega,rfl,rfl,by omega,hZ (by simp),hZ rfl,E1⟩
   case round=>
    obtain ⟨j,m,hj,hg,rfl,rfl,hm0,HM,HP,E⟩:=hrel;clear E1
    by_cases hlt:j < n
    . obtain ⟨x,hx⟩:=A4a (l:=sizes) (j:=j) (by rw [HN.out];exact hlt);have hxb:=A7c.1 HA.out x (u1b hx);simp only [B8c,A1c] at hxb;obtain ⟨b,o,rfl,hb,hcell⟩:=(HS.out.ext E.out).cells (by rw [HN.out];omega);have gx:=hcell j x hx;have HX:=hZ hx;have hmb:=G7c HM.out (m3b (by omega:j<=6));have hp1:m * x<=(12:Int) ^ (j+1):=by
       rw [Int.pow_succ];exact E1c HM.out hxb.2 (by omega) (Int.pow_nonneg (by omega))
      have hp0:0<=m * x:=Int.mul_nonneg hm0 (by omega);have hp2:=G7c hp1 (m3b (by omega:j+1<=6));have HP1:=hZ hp1;have HP2:=hZ (show m * x=t8a (sizes.take (j+1)) by rw [b8a hx,O8b,HP.out]);clear hcell hx hp1 hxb HM HP;generalize he:m * x=qv at hp0 hp2 HP1 HP2;have e2:wrap64 (m * x)=qv:=by rw [he];exact z8b _ ⟨by omega,by omega⟩
      clear he
      go_wp2_with fail
      go_roundg (n-(j+1))
      case measure=>omega
      case rel=>exact ⟨j+1,qv,by omega,H0c _,by go_num,by rw [e2],hp0,HP1,HP2,E⟩
    have:j=n:=by omega
    subst this;have hp:=HP.out;rw [<- HN.out,A8c] at hp;have HPR:=hZ hp;have hm2:=G7c HM.out (m3b (by omega));clear hp HM HP
    by_cases h2:m > 2000
    . have hee:=HE.out;rw [<- HPR.out,H5c h2] at hee;subst hee
      go_wp2_with fail
      go_returns;exact ⟨rfl,E.out⟩
    have hee:=HE.out;rw [<- HPR.out,H4c h2] at hee;have HE2:=hZ hee;clear hee HE
    go_wp2_with (first
     | (go_at_call 60;refine (G7a (HO.out.ext E.out) hq hol).mono ?_;rintro e w2 ⟨p2,c2,rfl,hR2,hE2,_⟩)
     | (go_at_call 163;refine (Y4b hR2 hol).mono ?_;rintro e w3 ⟨rfl,hR3,hG3⟩)
     | (go_at_call 166;refine (j7a (by omega)).mono ?_;rintro e w4 ⟨g4,rfl,hS4,hE4⟩))
    obtain ⟨row,hgr,hrow⟩:=id hG3;have E3:=M0a hE2 hgr hrow;have E5:=E.out.trans (E3.trans hE4);have hS5:=(hR3.at_).ext hE4;have hlS:=T6a order;have hee:=HE2.out
    by_cases hso:Hp.Z9a order=Hp.upto sizes.length
    . rw [H5c hso] at hee;subst hee;rw [HN.out] at hso;have hEq:=H2a (E5c hso) hS5 (show SliceAt w4 (some ⟨g4,0,none⟩) j (Hp.upto j) from hS4);rw [hlS,upto_length] at hEq;have HQ:=hZ hEq;clear hEq hso hS5 hS4 hR3 hG3 hgr hrow hR2;refine HQ.out.mono ?_;rintro e w5 ⟨rfl,hE5⟩
      go_wp2_with fail
      go_returns;exact ⟨rfl,E5.trans hE5⟩
    rw [H4c hso] at hee;subst hee;rw [HN.out] at hso;have hEq:=H2a (D7c hso) hS5 (show SliceAt w4 (some ⟨g4,0,none⟩) j (Hp.upto j) from hS4);rw [hlS,upto_length] at hEq;have HQ:=hZ hEq;clear hEq hso hS5 hS4 hR3 hG3 hgr hrow hR2;refine HQ.out.mono ?_;rintro e w5 ⟨rfl,hE5⟩
    go_wp2_with fail
    go_returns;exact ⟨rfl,E5.trans hE5⟩
theorem o3a {d:Nat} {words:Int} {sizes order:List Int} (hs:SliceAt w p c sizes) (ho:SliceAt w q d order) (hq:0 < order.length \/ q=none) (hol:order.length<=1000000) :
    Calls prog 59 #[.slice p sizes.length c,.slice q order.length d,.int .i64 words] w (Rt w (.int .i64 (Hp.G1a sizes order words))):=by
  have HC:=hZ (y9a hs ho hq hol);clear hs ho
  by_cases h0:Hp.A2a sizes order=0
  . cases hw:Hp.within 32 40000 words with
    | true=>
     have e:Hp.G1a sizes order words=0:=by simp [Hp.G1a,h0,hw]
     rw [e];have HW:=hZ hw;have HC':=hZ (h0 ▸ HC.out);clear e h0 hw HC;go_enter func59,ntmps59
     go_wp2_with (first
      | (go_at_call 121;refine m4_ (HC'.out) fun w1 hb1 hc1 hf1 hs1=>?_)
      | (go_at_call 105;refine m4_ ((HW.out ▸ E5a 32 40000 words _)) fun w2 hb2 hc2 hf2 hs2=>?_))
     go_returns;exact ⟨rfl,exx⟩
    | false=>
     have e:Hp.G1a sizes order words=3:=by simp [Hp.G1a,h0,hw]
     rw [e];have HW:=hZ hw;have HC':=hZ (h0 ▸ HC.out);clear e h0 hw HC;go_enter func59,ntmps59
     go_wp2_with (first
      | (go_at_call 121;refine m4_ (HC'.out) fun w1 hb1 hc1 hf1 hs1=>?_)
      | (go_at_call 105;refine m4_ ((HW.out ▸ E5a 32 40000 words _)) fun w2 hb2 hc2 hf2 hs2=>?_))
     go_returns;exact ⟨rfl,exx⟩
  have e:Hp.G1a sizes order words=Hp.A2a sizes order:=by simp [Hp.G1a,h0]
  rw [e];have t0:(Hp.A2a sizes order != 0)=true:=by simpa using h0
  clear e h0;generalize Hp.A2a sizes order=fe at *;go_enter func59,ntmps59
  go_wp2_with (go_at_call 121;refine m4_ (HC.out) fun w1 hb1 hc1 hf1 hs1=>?_)
  go_returns;exact ⟨rfl,exx⟩
theorem sub_at (h:HAt w d S) (hl:Hp.sub S.words a k=some l) (c:Nat) (hc:k<=c) (hc2:c<=9223372036854775807):SliceAt w (some ⟨d.gw,a,none⟩) c l/\l.length=k/\a+k<=S.words.length:=by
 unfold Hp.sub at hl
 split at hl
 case isFalse=>cases hl
 rename_i hle
 cases hl
 have hlen:((S.words.drop a).take k).length=k:=by simp;omega
 refine ⟨⟨by omega,hc2,fun x hx=>h.words.wf x (u5b (u4b hx)),fun _=>⟨d.gw,a,rfl,h.words.lt,fun j x hx=>?_⟩⟩,hlen,hle⟩
 refine h.words.get ?_
 unfold Hp.rd at hx ⊢
 rw [x2b] at hx
 split at hx
 . rw [w1b] at hx;exact hx
 cases hx
theorem N2b {next:Nat} {r:List Nat} {V:List Int} {R:List Int × Nat × List (Nat × Int)} (h:Hp.Hs.moves S (a :: r) V next M=some R) :
    ∃ t k l V',S.tag a=some t/\Hp.wide S.sizes t=some k/\Hp.sub S.words a k=some l/\Hp.lay V next l=some V'/\Hp.Hs.moves S r V' (next+k) (putI a (next:Int) M)=some R:=by
  simp only [Hp.Hs.moves,v9b,s0b] at h;obtain ⟨k,hk,l,hl,V',hV,h⟩:=h;obtain ⟨t,ht,hk⟩:=s0b.1 hk;exact ⟨t,k,l,V',ht,hk,hl,hV,h⟩
theorem M8b (h:S.moved=some (M,S')):∃ W next S1,Hp.Hs.moves S S.taken (List.replicate S.words.length 0) 17 []=some (W,next,M)/\Hp.Hs.d2a M { S with words:=W,taken:=[] } S.taken=some S1 /\
    ((next < W.length /\ ∃ V1 V2,Hp.wr S1.words 16 next=some V1/\Hp.wr V1 (next+1) ((W.length:Int)-next)=some V2/\S' = { S1 with words:=V2 }) \/ (¬ next < W.length/\S'=S1)):=by
  unfold Hp.Hs.moved at h;simp only [v9b,s0b] at h;obtain ⟨⟨W,next,M0⟩,hm,S1,h1,h⟩:=h;simp only at h
  split at h
  . rename_i hlt;simp only [s0b,C9c,z7b,F1c] at h;obtain ⟨V1,h2,V2,h3,rfl,rfl⟩:=h;exact ⟨W,next,S1,hm,h1,.inl ⟨hlt,V1,V2,h2,h3,rfl⟩⟩
  rename_i hlt;simp only [z7b,F1c] at h;obtain ⟨rfl,rfl⟩:=h;exact ⟨W,next,S1,hm,h1,.inr ⟨hlt,rfl⟩⟩
theorem Q9a {k:Nat} {x:Int}:∀ {M:List (Nat × Int)} {p:Nat × Int},p ∈ putI k x M->p=(k,x) \/ p ∈ M
 | [],p,h=>by simpa [putI] using h
 | (a,v) :: r,p,h=>by
  unfold putI at h
  split at h
  . rcases E6c.1 h with rfl | h
    . exact .inl rfl
    exact .inr h
  split at h
  . rcases E6c.1 h with rfl | h
    . exact .inl rfl
    exact .inr (by simp [h])
  rcases E6c.1 h with rfl | h
  . exact .inr (by simp)
  rcases Q9a h with h | h
  . exact .inl h
  exact .inr (by simp [h])
theorem I6b {k:Nat} {v:Int}:∀ {M:List (Nat × Int)},getI k M=some v->(k,v) ∈ M
 | [],h=>by cases h
 | (a,u) :: r,h=>by
  unfold getI at h
  split at h
  . rename_i e
    cases h
    subst e;simp
  exact u3b _ (I6b h)
end Go.Proofs.YtdokmmhjmclmnaaGreat
