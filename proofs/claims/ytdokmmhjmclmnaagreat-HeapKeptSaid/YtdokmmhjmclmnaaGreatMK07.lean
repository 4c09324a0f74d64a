/-
  Part 7 of a proof: HFn23 HFn24 HFn28 HFn31 HPlayM HFn35 HFn36 RegFork.
-/
import Derived.Deep.OwnRows
import Derived.Test.YtdokmmhjmclmnaaGreatMK01
import Derived.Test.YtdokmmhjmclmnaaGreatMK02
import Derived.Test.YtdokmmhjmclmnaaGreatMK04
import Derived.Test.YtdokmmhjmclmnaaGreatMK05
import Derived.Test.YtdokmmhjmclmnaaGreatMK06
set_option linter.unusedSimpArgs false
set_option linter.unusedVariables false
set_option linter.unusedSectionVars false
set_option linter.unnecessarySimpa false
namespace Go.Proofs.YtdokmmhjmclmnaaGreat
variable {W' w w' w0:World} {B a b base c ca cap f g i j k k1 k2 m n oc sb sc:Nat} {choice e t x:Int} {W fs l o z:List Int} {A T:List Nat} {op p p1 p2 pa pe pn q sp:Option Addr} {d:Hd} {S S':Hp.Hs} {M:List (Nat × Int)}
namespace Hp
def insI (x:Int):List Int->List Int
 | []=>[x]
 | y :: r=>if x<=y then x :: y :: r else y :: insI x r
def sortI:List Int->List Int
 | []=>[]
 | x :: r=>insI x (sortI r)
def upto (n:Nat):List Int:=(List.range n).map fun x:Nat=>(x:Int)
def frameErr (sizes order:List Int):Int:=
 if sizes.length > 6 then 5 else
 if sizes.all (fun n=>decide (1<=n) && decide (n<=12))=false then 3 else
 if sizes.foldl (· * ·) 1 > 2000 then 5 else
 if sortI order=upto sizes.length then 0 else 4
def newErr (sizes order:List Int) (words:Int):Int:=
 if frameErr sizes order ≠ 0 then frameErr sizes order else if within 32 40000 words then 0 else 3
end Hp
open Go.RowKit Go.Maps Go.Sort Go.Shelf
theorem perm_insI (x:Int):∀ l:List Int,(Hp.insI x l).Perm (x :: l)
 | []=>List.Perm.refl _
 | y :: r=>by
  unfold Hp.insI
  split
  . exact List.Perm.refl _
  exact ((perm_insI x r).cons y).trans (List.Perm.swap x y r)
theorem perm_sortI:∀ l:List Int,(Hp.sortI l).Perm l
 | []=>List.Perm.refl _
 | x :: r=>(perm_insI x _).trans ((perm_sortI r).cons x)
theorem sorted_insI (x:Int):∀ {l:List Int},l.Pairwise (· <= ·)->(Hp.insI x l).Pairwise (· <= ·)
 | [],_=>by simp [Hp.insI]
 | y :: r,h=>by
  obtain ⟨h1,h2⟩:=List.pairwise_cons.1 h;unfold Hp.insI
  split
  . rename_i hxy;refine List.pairwise_cons.2 ⟨fun z hz=>?_,h⟩
    rcases List.mem_cons.1 hz with rfl | hz
    . exact hxy
    exact Int.le_trans hxy (h1 z hz)
  rename_i hxy;refine List.pairwise_cons.2 ⟨fun z hz=>?_,sorted_insI x h2⟩
  rcases List.mem_cons.1 ((perm_insI x r).mem_iff.1 hz) with rfl | hz
  . omega
  exact h1 z hz
theorem sorted_sortI:∀ l:List Int,(Hp.sortI l).Pairwise (· <= ·)
 | []=>List.Pairwise.nil
 | x :: r=>sorted_insI x (sorted_sortI r)
theorem mergeSort_eq (l:List Int):l.mergeSort (fun x y=>decide (x<=y))=Hp.sortI l:=by
 refine List.Perm.eq_of_pairwise (le:=fun a b:Int=>a<=b) (fun a b _ _ h1 h2=>by omega) ?_ (sorted_sortI l) ((List.mergeSort_perm _ _).trans (perm_sortI l).symm)
 have:=List.pairwise_mergeSort (le:=fun x y:Int=>decide (x<=y)) (fun a b c h1 h2=>by simp at *;omega) (fun a b=>by simp;omega) l
 exact this.imp fun h=>by simpa using h
theorem sortI_length (l:List Int):(Hp.sortI l).length=l.length:=(perm_sortI l).length_eq
def SortPost (w:World) (base:Nat) (p:Option Addr) (c:Nat) (l:List Int) (e:Ending) (w':World):Prop:=e = .returned (.tuple #[])/\Row w' base p c (Hp.sortI l) /\ ∃ row,w.grownBy w' row /\ ∀ r,row=some r->base<=r
theorem sSort_any (h:Row w base p c l) (hlen:l.length<=1000000):Calls Tryz.prog 163 #[.slice p l.length c] w (SortPost w base p c l):=by
 rcases h.1.2 with ⟨e,hz⟩ | ⟨g,cap,cur,e,h1,hg,r1,r2,r3,r4⟩
 . injection e with e1 e2 e3
   have:l=[]:=List.eq_nil_of_length_eq_zero hz;subst this;subst e1;refine (AnyM.slices_Sort_int_none Tryz.sortA none c w).mono ?_;rintro e w' ⟨rfl,rfl⟩;exact ⟨rfl,by simpa [Hp.sortI] using h,none,World.grownBy.refl _ _,fun r hr=>by cases hr⟩
 injection e with e1 e2 e3
 subst e1 e3
 have hH:Holds encZ w g 0 l.toArray:=holds_of_block_i hg (by simpa [ints,encZ] using r4)
 have hgl:g < w.heap.size:=(Array.getElem?_eq_some_iff.1 hg).1
 refine (AnyM.slices_Sort_int Tryz.sortA g 0 c l w hH hgl (by omega)).mono ?_
 rintro e w' ⟨rfl,n,os,rfl⟩
 rw [mergeSort_eq]
 refine ⟨rfl,⟨?_,fun x hx=>h.2 x ((perm_sortI l).mem_iff.1 hx)⟩,some g,grownBy_sorted_i _,fun r hr=>by cases hr;exact h1⟩
 have:=ownsRow_sorted_i (n:=n) (os:=os) (sortI_length l) h1 hg r1 r2 r3
 rw [sortI_length]
 simpa [ints,encZ] using this
theorem nWithin1_any {b1 b2:Nat} {least most n:Int} (h1:w.cell? ⟨b1,0,none⟩=some (.int .i64 least)) (h2:w.cell? ⟨b2,0,none⟩=some (.int .i64 most)) :
    Calls Tryz.prog 185 #[.int .i64 n,.pointer (some ⟨b1,0,none⟩),.pointer (some ⟨b2,0,none⟩)] w fun e w'=>e = .returned (.bool (!(decide (least<=n) && decide (n<=most))))/\Ext w w':=by
  by_cases c1:n < least
  . have e:(!(decide (least<=n) && decide (n<=most)))=true:=by simp;omega
    rw [e];clear e;go_enter Tryz.func185,Tryz.ntmps185;go_wp2
    all_goals go_returns
    exact ⟨rfl,exx⟩
  by_cases c2:n > most
  . have e:(!(decide (least<=n) && decide (n<=most)))=true:=by simp;omega
    rw [e];clear e;have c3:decide (n < least)=false:=by simpa using c1
    go_enter Tryz.func185,Tryz.ntmps185;go_wp2
    all_goals go_returns
    exact ⟨rfl,exx⟩
  have e:(!(decide (least<=n) && decide (n<=most)))=false:=by simp;omega
  rw [e];clear e;have c3:decide (n < least)=false:=by simpa using c1
  have c4:decide (n > most)=false:=by simpa using c2
  go_enter Tryz.func185,Tryz.ntmps185;go_wp2
  all_goals go_returns
  exact ⟨rfl,exx⟩
theorem nWithin_any {least most:Int} {b:Bool} (h:SliceAt w p c l) (hb:l.all (fun n=>decide (least<=n) && decide (n<=most))=b) :
    Calls Tryz.prog 165 #[.int .i64 least,.int .i64 most,.slice p l.length c] w fun e w'=>e = .returned (.bool b)/\Ext w w':=by
  rw [all_any] at hb;have key:∀ t1 t2,Says ((w.alloc (.cells #[.int .i64 least] t1)).alloc (.cells #[.int .i64 most] t2)) 185 #[] #[.pointer (some ⟨w.heap.size,0,none⟩),.pointer (some ⟨w.heap.size+1,0,none⟩)] l (fun n=>!(decide (least<=n) && decide (n<=most))):=by
   intro t1 t2 j x hx _ W hW;have g1:W.cell? ⟨w.heap.size,0,none⟩=some (.int .i64 least):=by
    rw [hW.cell (by simp;omega) 0];go_simp
   have g2:W.cell? ⟨w.heap.size+1,0,none⟩=some (.int .i64 most):=by
    rw [hW.cell (by simp) 0];go_simp
   have:=nWithin1_any (n:=x) g1 g2
   simpa using this
  have H:=hZ h;have K:=hZ key;generalize hq:(l.any fun x=>!(decide (least<=x) && decide (x<=most)))=b0 at hb;have HQ:=hZ hq;clear h key hq;subst hb;go_enter Tryz.func165,Tryz.ntmps165
  go_wp2_with (go_at_call 167;refine (sContainsFunc_any (enters_of Tryz.func185 (by kernel_rfl) rfl) (H.out.ext (exx)) (K.out _ _) HQ.out).mono ?_;rintro e w1 ⟨rfl,hb1⟩;obtain ⟨hc1,hf1,hs1⟩:=hb1.cells)
  go_returns;exact ⟨rfl,exx⟩
open Go.RowKit Go.Maps
def filled (n j:Nat):List Int:=Hp.upto j ++ List.replicate (n-j) 0
theorem filled_len (h:j<=n):(filled n j).length=n:=by simp [filled,Hp.upto];omega
theorem filled_step (h:j < n):Hp.wr (filled n j) j (j:Int)=some (filled n (j+1)):=by
 unfold Hp.wr
 rw [if_pos (by rw [filled_len (by omega)];exact h)]
 congr 1
 unfold filled
 rw [List.set_append_right _ _ (by simp [Hp.upto])]
 have e1:j-(Hp.upto j).length=0:=by simp [Hp.upto]
 rw [e1,show n-j=(n-(j+1))+1 by omega,List.replicate_succ,List.set_cons_zero]
 unfold Hp.upto
 rw [List.range_succ,List.map_append]
 simp
theorem filled_full (n:Nat):filled n n=Hp.upto n:=by simp [filled]
def NumPost (w:World) (n:Nat) (e:Ending) (w':World):Prop:=∃ g,e = .returned (.slice (some ⟨g,0,none⟩) n n)/\SliceAt w' (some ⟨g,0,none⟩) n (Hp.upto n)/\Ext w w'
theorem made_words (w:World) (n:Nat):WordsAt (w.alloc (.cells (madeCells #[.int .i64 0] n) 3)) w.heap.size (List.replicate n 0):=by
 refine ⟨⟨[], ?_⟩,fun x hx=>by rw [List.eq_of_mem_replicate hx];omega⟩
 rw [heap_new]
 congr 2
 apply Array.ext
 . simp [ints,size_madeCells]
 intro i h1 h2
 have hi:i < n:=by simpa [size_madeCells] using h1
 simp [madeCells,ints,hi,Nat.mod_one]
set_option maxHeartbeats 2000000 in
theorem numbers_any (hn:n<=1000):Calls Tryz.prog 166 #[.int .i64 n] w (NumPost w n):=by
 have hmk:=run_make_row' (P:=Tryz.prog) 22 3 (.int .i64 0) 8 Tryz.underlying22 (show (Tryz.prog.info? 3).map (fun i=>(i.zero,i.size,i.bytes))=some (some (.int .i64 0),1,8) from by kernel_rfl) rfl .i64 .i64 n (by omega) (by omega)
 go_enter Tryz.func166,Tryz.ntmps166
 go_wp2_with fail
 clear hmk
 have W0:=hZ (show WordsAt (w.alloc (.cells (madeCells #[.int .i64 0] n) 3)) w.heap.size (filled n 0) by simpa [filled,Hp.upto] using made_words w n)
 have E0:Ext w (w.alloc (.cells (madeCells #[.int .i64 0] n) 3)):=exx
 generalize (w.alloc (.cells (madeCells #[.int .i64 0] n) 3))=w1 at W0 E0 ⊢
 have E0':=hZ E0
 clear E0
 go_loopg [8] n (fun g i wr=>∃ j:Nat,j<=n/\n-j<=g/\i = .int .i64 j/\Hid (WordsAt wr w.heap.size (filled n j))/\Hid (Ext w wr))
 case atStart=>exact ⟨0,Nat.zero_le _,by omega,rfl,W0,E0'⟩
 case round=>
  obtain ⟨j,hj,hg,rfl,W,E⟩:=hrel;clear W0 E0'
  by_cases hlt:j < n
  . obtain ⟨y,hy⟩:=rd_get (l:=filled n j) (j:=j) (by rw [filled_len hj];exact hlt);have g1:=W.out.get hy;have f1:=W.out.froz j;have W1:=hZ (W.out.set (filled_step hlt) (by omega) (by omega));have E1:=hZ (Ext.setCell E.out (p:=⟨w.heap.size,j,none⟩) (Nat.le_refl _) (.int .i64 j));clear hy
    go_wp2_with fail
    go_roundg (n-(j+1))
    case measure=>omega
    case rel=>exact ⟨j+1,by omega,Nat.le_refl _,by go_num,W1,E1⟩
  have:j=n:=by omega
  subst this
  go_wp2_with fail
  go_returns;have h1:=W.out;rw [filled_full] at h1;have hl:(Hp.upto j).length=j:=by simp [Hp.upto]
  exact ⟨w.heap.size,rfl,⟨by rw [hl];exact Nat.le_refl _,by omega,h1.wf,fun _=>⟨w.heap.size,0,rfl,h1.lt,fun i x hx=>by rw [Nat.zero_add];exact h1.get hx⟩⟩,E.out⟩
theorem upto_length (n:Nat):(Hp.upto n).length=n:=by simp [Hp.upto]
theorem ext_grow {row:Option Nat} (h:Ext w0 w) (k:w.grownBy w' row) (hr:∀ g,row=some g->w0.heap.size<=g):Ext w0 w':=
 But.toExt (Ext.refl w0) (but_grow (But.ofExt (l:=[]) h) k hr) (by simp)
def prodI (l:List Int):Int:=l.foldl (· * ·) 1
theorem prodI_snoc (l:List Int) (x:Int):prodI (l ++ [x])=prodI l * x:=by simp [prodI,List.foldl_append]
theorem take_snocI (h:Hp.rd l j=some x):l.take (j+1)=l.take j ++ [x]:=by
 obtain ⟨hl,rfl⟩:=List.getElem?_eq_some_iff.1 h
 exact List.take_succ_eq_append_getElem hl
theorem pow12 (h:j<=6):(12:Int) ^ j<=2985984:=by
 have hh:j=0 \/ j=1 \/ j=2 \/ j=3 \/ j=4 \/ j=5 \/ j=6:=by omega
 rcases hh with rfl | rfl | rfl | rfl | rfl | rfl | rfl <;> decide
set_option maxRecDepth 100000 in
set_option maxHeartbeats 4000000 in
theorem frame_any {d:Nat} {sizes order:List Int} (hs:SliceAt w p c sizes) (ho:SliceAt w q d order) (hq:0 < order.length \/ q=none) (hol:order.length<=1000000) :
    Calls Tryz.prog 121 #[.slice p sizes.length c,.slice q order.length d] w fun e w'=>e = .returned (.int .i64 (Hp.frameErr sizes order))/\Ext w w':=by
  have HS:=hZ hs;have HO:=hZ ho;have hsc:=hs.le;have hscc:=hs.cap;clear hs ho
  by_cases h6:sizes.length > 6
  . have e:Hp.frameErr sizes order=5:=by unfold Hp.frameErr;rw [if_pos h6]
    rw [e];clear e;go_enter Tryz.func121,Tryz.ntmps121
    go_wp2_with fail
    go_returns;exact ⟨rfl,exx⟩
  cases hall:sizes.all (fun n=>decide (1<=n) && decide (n<=12)) with
  | false=>
   have e:Hp.frameErr sizes order=3:=by unfold Hp.frameErr;rw [if_neg h6,if_pos hall]
   rw [e];have HA:=hZ hall;clear e hall;go_enter Tryz.func121,Tryz.ntmps121
   go_wp2_with (go_at_call 165;refine (nWithin_any HS.out HA.out).mono ?_;rintro e w1 ⟨rfl,hb1⟩;obtain ⟨hc1,hf1,hs1⟩:=hb1.cells)
   go_returns;exact ⟨rfl,exx⟩
  | true=>
   have e:Hp.frameErr sizes order=if prodI sizes > 2000 then 5 else if Hp.sortI order=Hp.upto sizes.length then 0 else 4:=by
    unfold Hp.frameErr prodI;rw [if_neg h6,if_neg (by rw [hall];simp)]
   rw [e];have HA:=hZ hall;obtain ⟨ee,hee⟩:∃ ee,(if prodI sizes > 2000 then 5 else if Hp.sortI order=Hp.upto sizes.length then 0 else 4:Int)=ee:=⟨_,rfl⟩
   rw [hee];have HE:=hZ hee;clear e hall hee;obtain ⟨n,hn⟩:∃ n,sizes.length=n:=⟨_,rfl⟩
   have HN:=hZ hn;rw [hn] at h6 hsc ⊢;clear hn;go_enter Tryz.func121,Tryz.ntmps121
   go_wp2_with (go_at_call 165;refine ((HN.out ▸ nWithin_any HS.out HA.out)).mono ?_;rintro e w1 ⟨rfl,hb1⟩;obtain ⟨hc1,hf1,hs1⟩:=hb1.cells)
   have E1:=hZ hb1;clear hb1 hc1 hf1 hs1
   go_loopg [5,19] n (fun g s i wr=>∃ (j:Nat) (m:Int),j<=n/\n-j<=g/\i = .int .i64 j/\s = .int .i64 m/\0<=m/\Hid (m<=(12:Int) ^ j)/\Hid (m=prodI (sizes.take j))/\Hid (Ext w wr))
   case atStart=>exact ⟨0,1,Nat.zero_le _,by omega,rfl,rfl,by omega,hZ (by simp),hZ rfl,E1⟩
   case round=>
    obtain ⟨j,m,hj,hg,rfl,rfl,hm0,HM,HP,E⟩:=hrel;clear E1
    by_cases hlt:j < n
    . obtain ⟨x,hx⟩:=rd_get (l:=sizes) (j:=j) (by rw [HN.out];exact hlt);have hxb:=List.all_eq_true.1 HA.out x (List.mem_of_getElem? hx);simp only [Bool.and_eq_true,decide_eq_true_eq] at hxb;obtain ⟨b,o,rfl,hb,hcell⟩:=(HS.out.ext E.out).cells (by rw [HN.out];omega);have gx:=hcell j x hx;have HX:=hZ hx;have hmb:=Int.le_trans HM.out (pow12 (by omega:j<=6));have hp1:m * x<=(12:Int) ^ (j+1):=by
       rw [Int.pow_succ];exact Int.mul_le_mul HM.out hxb.2 (by omega) (Int.pow_nonneg (by omega))
      have hp0:0<=m * x:=Int.mul_nonneg hm0 (by omega);have hp2:=Int.le_trans hp1 (pow12 (by omega:j+1<=6));have HP1:=hZ hp1;have HP2:=hZ (show m * x=prodI (sizes.take (j+1)) by rw [take_snocI hx,prodI_snoc,HP.out]);clear hcell hx hp1 hxb HM HP;generalize he:m * x=qv at hp0 hp2 HP1 HP2;have e2:wrap64 (m * x)=qv:=by rw [he];exact IntWalk.wrap64_in _ ⟨by omega,by omega⟩
      clear he
      go_wp2_with fail
      go_roundg (n-(j+1))
      case measure=>omega
      case rel=>exact ⟨j+1,qv,by omega,Nat.le_refl _,by go_num,by rw [e2],hp0,HP1,HP2,E⟩
    have:j=n:=by omega
    subst this;have hp:=HP.out;rw [<- HN.out,List.take_length] at hp;have HPR:=hZ hp;have hm2:=Int.le_trans HM.out (pow12 (by omega));clear hp HM HP
    by_cases h2:m > 2000
    . have hee:=HE.out;rw [<- HPR.out,if_pos h2] at hee;subst hee
      go_wp2_with fail
      go_returns;exact ⟨rfl,E.out⟩
    have hee:=HE.out;rw [<- HPR.out,if_neg h2] at hee;have HE2:=hZ hee;clear hee HE
    go_wp2_with (first
     | (go_at_call 60;refine (sClone_any (HO.out.ext E.out) hq hol).mono ?_;rintro e w2 ⟨p2,c2,rfl,hR2,hE2,_⟩)
     | (go_at_call 163;refine (sSort_any hR2 hol).mono ?_;rintro e w3 ⟨rfl,hR3,hG3⟩)
     | (go_at_call 166;refine (numbers_any (by omega)).mono ?_;rintro e w4 ⟨g4,rfl,hS4,hE4⟩))
    obtain ⟨row,hgr,hrow⟩:=id hG3;have E3:=ext_grow hE2 hgr hrow;have E5:=E.out.trans (E3.trans hE4);have hS5:=(hR3.at_).ext hE4;have hlS:=sortI_length order;have hee:=HE2.out
    by_cases hso:Hp.sortI order=Hp.upto sizes.length
    . rw [if_pos hso] at hee;subst hee;rw [HN.out] at hso;have hEq:=sEqual_is (decide_eq_true hso) hS5 (show SliceAt w4 (some ⟨g4,0,none⟩) j (Hp.upto j) from hS4);rw [hlS,upto_length] at hEq;have HQ:=hZ hEq;clear hEq hso hS5 hS4 hR3 hG3 hgr hrow hR2;refine HQ.out.mono ?_;rintro e w5 ⟨rfl,hE5⟩
      go_wp2_with fail
      go_returns;exact ⟨rfl,E5.trans hE5⟩
    rw [if_neg hso] at hee;subst hee;rw [HN.out] at hso;have hEq:=sEqual_is (decide_eq_false hso) hS5 (show SliceAt w4 (some ⟨g4,0,none⟩) j (Hp.upto j) from hS4);rw [hlS,upto_length] at hEq;have HQ:=hZ hEq;clear hEq hso hS5 hS4 hR3 hG3 hgr hrow hR2;refine HQ.out.mono ?_;rintro e w5 ⟨rfl,hE5⟩
    go_wp2_with fail
    go_returns;exact ⟨rfl,E5.trans hE5⟩
theorem hcheck_any {d:Nat} {words:Int} {sizes order:List Int} (hs:SliceAt w p c sizes) (ho:SliceAt w q d order) (hq:0 < order.length \/ q=none) (hol:order.length<=1000000) :
    Calls Tryz.prog 59 #[.slice p sizes.length c,.slice q order.length d,.int .i64 words] w fun e w'=>e = .returned (.int .i64 (Hp.newErr sizes order words))/\Ext w w':=by
  have HC:=hZ (frame_any hs ho hq hol);clear hs ho
  by_cases h0:Hp.frameErr sizes order=0
  . cases hw:Hp.within 32 40000 words with
    | true=>
     have e:Hp.newErr sizes order words=0:=by simp [Hp.newErr,h0,hw]
     rw [e];have HW:=hZ hw;have HC':=hZ (h0 ▸ HC.out);clear e h0 hw HC;go_enter Tryz.func59,Tryz.ntmps59
     go_wp2_with (first
      | (go_at_call 121;refine (HC'.out).mono ?_;rintro e w1 ⟨rfl,hb1⟩;obtain ⟨hc1,hf1,hs1⟩:=hb1.cells)
      | (go_at_call 105;refine ((HW.out ▸ within_any 32 40000 words _)).mono ?_;rintro e w2 ⟨rfl,hb2⟩;obtain ⟨hc2,hf2,hs2⟩:=hb2.cells))
     go_returns;exact ⟨rfl,exx⟩
    | false=>
     have e:Hp.newErr sizes order words=3:=by simp [Hp.newErr,h0,hw]
     rw [e];have HW:=hZ hw;have HC':=hZ (h0 ▸ HC.out);clear e h0 hw HC;go_enter Tryz.func59,Tryz.ntmps59
     go_wp2_with (first
      | (go_at_call 121;refine (HC'.out).mono ?_;rintro e w1 ⟨rfl,hb1⟩;obtain ⟨hc1,hf1,hs1⟩:=hb1.cells)
      | (go_at_call 105;refine ((HW.out ▸ within_any 32 40000 words _)).mono ?_;rintro e w2 ⟨rfl,hb2⟩;obtain ⟨hc2,hf2,hs2⟩:=hb2.cells))
     go_returns;exact ⟨rfl,exx⟩
  have e:Hp.newErr sizes order words=Hp.frameErr sizes order:=by simp [Hp.newErr,h0]
  rw [e];have t0:(Hp.frameErr sizes order != 0)=true:=by simpa using h0
  clear e h0;generalize Hp.frameErr sizes order=fe at *;go_enter Tryz.func59,Tryz.ntmps59
  go_wp2_with (go_at_call 121;refine (HC.out).mono ?_;rintro e w1 ⟨rfl,hb1⟩;obtain ⟨hc1,hf1,hs1⟩:=hb1.cells)
  go_returns;exact ⟨rfl,exx⟩
theorem WordsAt.copied {V V':List Int} (h:WordsAt w g V) (hs:SliceAt w p c l) (h0:0 < l.length) (hw:Hp.lay V i l=some V') :
    ∃ w',(∀ n c' ty,l.length<=n->(Builtin.copy_ #[22,22] ty #[.slice (some ⟨g,i,none⟩) n c',.slice p l.length c]).run Tryz.prog w = .ok (goInt (l.length:Nat)) w')/\WordsAt w' g V'/\But [g] w w':=by
  obtain ⟨b,o,rfl,hb,hx⟩:=hs.cells h0;obtain ⟨s,hg⟩:=h.row;have hl:=HAt.lay_len hw;have hfit:i+(ints l).length<=(ints V ++ s).toArray.size:=by simp [ints];omega
  have k1:But [g] w (w.setRow g (splice (ints V ++ s) i (ints l)).toArray):=(But.refl _ _).setRow (.inl (by simp)) _;refine ⟨w.setRow g (splice (ints V ++ s) i (ints l)).toArray,fun n c' ty hn=>?_,h.spliced hw hs.wf (fun cur hcur hle=>?_),k1⟩
  . have hm:Nat.min l.length n=l.length:=Nat.min_eq_left hn;have:=run_copy_rowK (P:=Tryz.prog) w 22 22 ty 3 1 g i n c' ⟨b,o,none⟩ l.length c _ 3 (ints l) Tryz.underlying22 (by kernel_rfl) hg (by rw [hm];simp [ints]) (fun j v hj=>by
     rw [Addr.add_lit];obtain ⟨hj1,hj2⟩:=List.getElem?_eq_some_iff.1 hj;have hj3:j < l.length:=by simpa [ints] using hj1
     rw [hx j l[j] (List.getElem?_eq_getElem hj3),<- hj2];simp [ints]) hfit (fun v hv=>by
     obtain ⟨x,_,rfl⟩:=List.mem_map.1 hv;rfl)
    rw [hm] at this;rw [this];simp only [List.toList_toArray,splice,List.append_assoc]
  rw [hg] at hcur;have e:cur=ints V ++ s:=by
   have:=Option.some.inj hcur;injection this with e1
   simpa using e1.symm
  subst e;exact setRow_heap w g _ _ _ _ hg
theorem sub_at (h:HAt w d S) (hl:Hp.sub S.words a k=some l) (c:Nat) (hc:k<=c) (hc2:c<=9223372036854775807):SliceAt w (some ⟨d.gw,a,none⟩) c l/\l.length=k/\a+k<=S.words.length:=by
 unfold Hp.sub at hl
 split at hl
 case isFalse=>cases hl
 rename_i hle
 cases hl
 have hlen:((S.words.drop a).take k).length=k:=by simp;omega
 refine ⟨⟨by omega,hc2,fun x hx=>h.words.wf x (List.mem_of_mem_drop (List.mem_of_mem_take hx)),fun _=>⟨d.gw,a,rfl,h.words.lt,fun j x hx=>?_⟩⟩,hlen,hle⟩
 refine h.words.get ?_
 unfold Hp.rd at hx ⊢
 rw [List.getElem?_take] at hx
 split at hx
 . rw [List.getElem?_drop] at hx;exact hx
 cases hx
theorem made_at_ (w:World) (n g:Nat) (hg:g=w.heap.size):WordsAt (w.alloc (.cells (madeCells #[.int .i64 0] n) 3)) g (List.replicate n 0):=by
 subst hg
 exact made_words w n
structure Mv (w W:World) (d:Hd) (S:Hp.Hs) (g gm:Nat) (V:List Int) (M:List (Nat × Int)):Prop extends HAt W d S where
 ext':Ext w W
 new:WordsAt W g V
 moved:MapIAt Tryz.prog W gm M
 g1:w.heap.size<=g
 g2:w.heap.size<=gm
 g3:g ≠ gm
 o0:∀ b ∈ d.own,b < w.heap.size
 o1:∀ b o,d.sp=some ⟨b,o,none⟩->b < w.heap.size
 o2:∀ b o,d.op=some ⟨b,o,none⟩->b < w.heap.size
namespace Mv
variable {w W W':World} {d:Hd} {S:Hp.Hs} {g gm:Nat} {V V':List Int} {M M':List (Nat × Int)}
theorem ext (h:Mv w W d S g gm V M) (k:Ext W W'):Mv w W' d S g gm V M:=
 { h with toHAt:=h.toHAt.ext k,ext':=h.ext'.trans k,new:=h.new.ext k,moved:=h.moved.ext k }
theorem far (h:Mv w W d S g gm V M) {x:Nat} (k:But [x] W W') (hx:w.heap.size<=x):HAt W' d S:=
 h.toHAt.but k (by have:=h.o0 _ d.hb_own;simp;omega) (by have:=h.o0 _ d.gw_own;simp;omega) (by have:=h.o0 _ d.gm_own;simp;omega) (fun b o e=>by have:=h.o1 b o e;simp;omega) (fun b o e=>by have:=h.o2 b o e;simp;omega)
theorem copied (h:Mv w W d S g gm V M) (k:But [g] W W') (hn:WordsAt W' g V'):Mv w W' d S g gm V' M:=
 { h with toHAt:=h.far k h.g1,ext':=But.toExt h.ext' k (by simp;exact h.g1),new:=hn,moved:=h.moved.but k (by simp;exact fun e=>h.g3 e.symm) }
theorem putd (h:Mv w W d S g gm V M) (k:But [gm] W W') (hn:MapIAt Tryz.prog W' gm M'):Mv w W' d S g gm V M':=
 { h with toHAt:=h.far k h.g2,ext':=But.toExt h.ext' k (by simp;exact h.g2),new:=h.new.but k (by simp;exact h.g3),moved:=hn }
theorem cut {P:Program} {cd:Code} {Q:Exit->Act->World->Prop} {a:Act} (h:Mv w W d S g gm V M) (k:∀ w',Mv w w' d S g gm V M->cd.wp P Q a w'):cd.wp P Q a W:=k W h
theorem swap (h:Mv w W d S g gm V M) (hV:V.length=S.words.length) :
    HAt (W.setCell ⟨d.hb,2,none⟩ (.slice (some ⟨g,0,none⟩) S.words.length S.words.length)) { d with gw:=g,cap:=S.words.length } { S with words:=V }:=by
  have k:But [d.hb] W (W.setCell ⟨d.hb,2,none⟩ (.slice (some ⟨g,0,none⟩) S.words.length S.words.length)):=(But.refl _ _).setCell (.inl (by simp)) _;have o1:=h.o0 _ d.hb_own;have o2:=h.o0 _ d.gm_own;have g1:=h.g1;have q1:∀ b o,d.sp=some ⟨b,o,none⟩->b ∉ [d.hb]:=fun b o e=>by
   have:=h.far1 b o e;simp [Hd.own] at this;simp [this.1]
  have q2:∀ b o,d.op=some ⟨b,o,none⟩->b ∉ [d.hb]:=fun b o e=>by
   have:=h.far2 b o e;simp [Hd.own] at this;simp [this.1]
  exact
  { c0:=(World.cell?_setCell_other _ _ _ _ (by simp)).trans h.c0
    c1:=(World.cell?_setCell_other _ _ _ _ (by simp)).trans h.c1
    c2:=by simpa [hV] using World.cell?_setCell_same _ _ _ h.c2
    c3:=(World.cell?_setCell_other _ _ _ _ (by simp)).trans h.c3
    f2:=by simpa using h.f2
    sizes:=h.sizes.but k q1
    order:=h.order.but k q2
    words:=h.new.but k (by simp;omega)
    le:=by simp [hV]
    cap:=by have:=h.small;simp;omega
    map:=h.map.but k (by simp;exact fun e=>h.apart2 e.symm)
    below:=fun a ha=>by simpa [hV] using h.below a ha
    apart1:=by simp;omega
    apart2:=h.apart2
    apart3:=by simp;omega
    far1:=fun b o e=>by
     have a1:=h.far1 b o e;have a2:=h.o1 b o e;simp [Hd.own] at a1 ⊢;refine ⟨a1.1, ?_,a1.2.2⟩;omega
    far2:=fun b o e=>by
     have a1:=h.far2 b o e;have a2:=h.o2 b o e;simp [Hd.own] at a1 ⊢;refine ⟨a1.1, ?_,a1.2.2⟩;omega
    pos:=h.pos
    small:=by simp only [hV];exact h.small
    few:=h.few
    old1:=fun b o e=>Nat.lt_of_lt_of_le (h.old1 b o e) k.size
    old2:=fun b o e=>Nat.lt_of_lt_of_le (h.old2 b o e) k.size }
end Mv
theorem moves_cons {next:Nat} {r:List Nat} {V:List Int} {R:List Int × Nat × List (Nat × Int)} (h:Hp.Hs.moves S (a :: r) V next M=some R) :
    ∃ t k l V',S.tag a=some t/\Hp.wide S.sizes t=some k/\Hp.sub S.words a k=some l/\Hp.lay V next l=some V'/\Hp.Hs.moves S r V' (next+k) (putI a (next:Int) M)=some R:=by
  simp only [Hp.Hs.moves,Option.bind_eq_bind,Option.bind_eq_some_iff] at h;obtain ⟨k,hk,l,hl,V',hV,h⟩:=h;obtain ⟨t,ht,hk⟩:=Option.bind_eq_some_iff.1 hk;exact ⟨t,k,l,V',ht,hk,hl,hV,h⟩
theorem putI_len (k:Nat) (x:Int):∀ M:List (Nat × Int),(putI k x M).length<=M.length+1
 | []=>by simp [putI]
 | (a,v) :: r=>by
  unfold putI
  split
  . simp
  split
  . simp
  have:=putI_len k x r;simp;omega
theorem moved_some (h:S.moved=some (M,S')):∃ W next S1,Hp.Hs.moves S S.taken (List.replicate S.words.length 0) 17 []=some (W,next,M)/\Hp.Hs.rechain M { S with words:=W,taken:=[] } S.taken=some S1 /\
    ((next < W.length /\ ∃ V1 V2,Hp.wr S1.words 16 next=some V1/\Hp.wr V1 (next+1) ((W.length:Int)-next)=some V2/\S' = { S1 with words:=V2 }) \/ (¬ next < W.length/\S'=S1)):=by
  unfold Hp.Hs.moved at h;simp only [Option.bind_eq_bind,Option.bind_eq_some_iff] at h;obtain ⟨⟨W,next,M0⟩,hm,S1,h1,h⟩:=h;simp only at h
  split at h
  . rename_i hlt;simp only [Option.bind_eq_some_iff,Option.pure_def,Option.some.injEq,Prod.mk.injEq] at h;obtain ⟨V1,h2,V2,h3,rfl,rfl⟩:=h;exact ⟨W,next,S1,hm,h1,.inl ⟨hlt,V1,V2,h2,h3,rfl⟩⟩
  rename_i hlt;simp only [Option.some.injEq,Prod.mk.injEq] at h;obtain ⟨rfl,rfl⟩:=h;exact ⟨W,next,S1,hm,h1,.inr ⟨hlt,rfl⟩⟩
theorem mem_putI {k:Nat} {x:Int}:∀ {M:List (Nat × Int)} {p:Nat × Int},p ∈ putI k x M->p=(k,x) \/ p ∈ M
 | [],p,h=>by simpa [putI] using h
 | (a,v) :: r,p,h=>by
  unfold putI at h
  split at h
  . rcases List.mem_cons.1 h with rfl | h
    . exact .inl rfl
    exact .inr h
  split at h
  . rcases List.mem_cons.1 h with rfl | h
    . exact .inl rfl
    exact .inr (by simp [h])
  rcases List.mem_cons.1 h with rfl | h
  . exact .inr (by simp)
  rcases mem_putI h with h | h
  . exact .inl h
  exact .inr (by simp [h])
theorem getI_val {k:Nat} {v:Int}:∀ {M:List (Nat × Int)},getI k M=some v->(k,v) ∈ M
 | [],h=>by cases h
 | (a,u) :: r,h=>by
  unfold getI at h
  split at h
  . rename_i e
    cases h
    subst e;simp
  exact List.mem_cons_of_mem _ (getI_val h)
theorem getD_small (h:∀ p ∈ M,0<=p.2/\p.2<=1000017):0<=(getI k M).getD 0/\(getI k M).getD 0<=1000017:=by
 cases e:getI k M with
 | none=>simp
 | some v=>simpa using h _ (getI_val e)
theorem rekid_succ {tt:Nat} {W':List Int} (h:Hp.Hs.rekid S M tt (n+1) j W=some W') :
    ∃ k ks W1,Hp.ra W (tt+4+j)=some k/\Hp.Hs.kids { S with words:=W } tt=some ks/\j < ks.length/\Hp.wr W (tt+4+j) ((getI k M).getD 0)=some W1/\Hp.Hs.rekid S M tt n (j+1) W1=some W':=by
  simp only [Hp.Hs.rekid,Option.bind_eq_bind,Option.bind_eq_some_iff] at h;obtain ⟨k,hk,ks,hks,h⟩:=h
  split at h
  . rename_i hj;simp only [Option.bind_eq_some_iff] at h;obtain ⟨W1,h1,h⟩:=h;exact ⟨k,ks,W1,hk,hks,hj,h1,h⟩
  cases h
theorem rekid_len {S:Hp.Hs} {M:List (Nat × Int)} {tt:Nat}:∀ {n j:Nat} {W W':List Int},Hp.Hs.rekid S M tt n j W=some W'->W'.length=W.length
 | 0,_,W,W',h=>by
  have:W=W':=by simpa [Hp.Hs.rekid] using h
  rw [this]
 | n+1,j,W,W',h=>by
  obtain ⟨k,ks,W1,_,_,_,h1,h2⟩:=rekid_succ h;rw [rekid_len h2,(HAt.wr_len h1).1]
theorem rechain_cons {r:List Nat} (h:Hp.Hs.rechain M S (a :: r)=some S') :
    ∃ tt ks W1 head t fs x W2 W3,(getI a M).getD 0=((tt:Nat):Int)/\tt < S.words.length/\Hp.Hs.kids { S with taken:=Hp.Hs.insert tt S.taken } tt=some ks /\
     Hp.Hs.rekid { S with taken:=Hp.Hs.insert tt S.taken } M tt ks.length 0 S.words=some W1/\Hp.Hs.tag { S with words:=W1,taken:=Hp.Hs.insert tt S.taken } tt=some t/\Hp.Hs.fields { S with words:=W1,taken:=Hp.Hs.insert tt S.taken } tt=some fs /\
     Hp.chain t fs=some head/\Hp.rd W1 head=some x/\Hp.wr W1 (tt+3) x=some W2/\Hp.wr W2 head tt=some W3/\Hp.Hs.rechain M { S with words:=W3,taken:=Hp.Hs.insert tt S.taken } r=some S':=by
  simp only [Hp.Hs.rechain,Option.bind_eq_bind,Option.bind_eq_some_iff] at h;obtain ⟨tt,htt,h⟩:=h
  split at h
  . cases h
  rename_i hlt;simp only [Option.bind_eq_some_iff] at h;obtain ⟨ks,hks,W1,h1,t,ht,fs,hfs,head,hh,x,hx,W2,h2,W3,h3,h⟩:=h;exact ⟨tt,ks,W1,head,t,fs,x,W2,W3,adr_some htt,by omega,hks,h1,ht,hfs,hh,hx,h2,h3,h⟩
theorem But.turned2 {l:List Nat} {a b c:World} {x:Nat} (h:But l a b) (k:But [g,x] b c) (hg:a.heap.size<=g) (hx:x ∈ l):But l a c:=
 ⟨k.os.trans h.os,k.tape.trans h.tape,k.output.trans h.output,Nat.le_trans h.size k.size,fun i hi hn=>(k.block i (Nat.lt_of_lt_of_le hi h.size) (by
  simp only [List.mem_cons,List.not_mem_nil,or_false,not_or];exact ⟨by omega,fun e=>hn (e ▸ hx)⟩)).trans (h.block i hi hn)⟩
structure Rl (w W:World) (d:Hd) (g n:Nat) (S:Hp.Hs) (gm:Nat) (M:List (Nat × Int)) (ps:Option Addr) (cs:Nat) (T:List Nat):Prop where
 at_:HAt W { d with gw:=g,cap:=n } S
 but:But d.own w W
 moved:MapIAt Tryz.prog W gm M
 cells:SliceAt W ps cs (natInts T)
 len:S.words.length=n
 a1:gm ≠ g
 a2:gm ≠ d.gm
 a3:∀ b o,ps=some ⟨b,o,none⟩->b ≠ g/\b ≠ d.gm
 a4:w.heap.size<=g
namespace Rl
variable {w W W':World} {d:Hd} {g n gm cs:Nat} {S S':Hp.Hs} {M:List (Nat × Int)} {ps:Option Addr} {T:List Nat}
theorem turn (h:Rl w W d g n S gm M ps cs T) (k:But [g,d.gm] W W') (h':HAt W' { d with gw:=g,cap:=n } S') (hl:S'.words.length=n):Rl w W' d g n S' gm M ps cs T:=
 { at_:=h'
   but:=h.but.turned2 k h.a4 d.gm_own
   moved:=h.moved.but k (by simp [h.a1,h.a2])
   cells:=h.cells.but k (fun b o e=>by simp [h.a3 b o e])
   len:=hl
   a1:=h.a1
   a2:=h.a2
   a3:=h.a3
   a4:=h.a4 }
theorem ext (h:Rl w W d g n S gm M ps cs T) (k:Ext W W'):Rl w W' d g n S gm M ps cs T:=h.turn (But.ofExt k) (h.at_.ext k) h.len
theorem set (h:Rl w W d g n S gm M ps cs T) {v:Int} {V:List Int} (hw:Hp.wr S.words j v=some V) (h1 : -9223372036854775808<=v) (h2:v<=9223372036854775807):Rl w (W.setCell ⟨g,j,none⟩ (.int .i64 v)) d g n { S with words:=V } gm M ps cs T:=
 h.turn ((But.refl _ _).setCell (.inl (by simp)) _) (h.at_.set hw h1 h2) ((HAt.wr_len hw).1.trans h.len)
theorem mapped (h:Rl w W d g n S gm M ps cs T) {T':List Nat} (k:W.mapTurned W' d.gm) (hm:MapAt Tryz.prog W' d.gm T') (hb:∀ a ∈ T',a < n):Rl w W' d g n { S with taken:=T' } gm M ps cs T:=
 h.turn ((But.refl _ _).turned k (.inl (by simp))) (h.at_.mapped (d:={ d with gw:=g,cap:=n }) k hm (fun a ha=>by rw [h.len];exact hb a ha)) h.len
theorem c2 (h:Rl w W d g n S gm M ps cs T):W.cell? ⟨d.hb,2,none⟩=some (.slice (some ⟨g,0,none⟩) n n):=by
 have:=h.at_.c2
 rw [h.len] at this
 exact this
theorem c3 (h:Rl w W d g n S gm M ps cs T):W.cell? ⟨d.hb,3,none⟩=some (.map (some d.gm)):=h.at_.c3
theorem get (h:Rl w W d g n S gm M ps cs T) (hx:Hp.rd S.words j=some x):W.cell? ⟨g,j,none⟩=some (.int .i64 x):=h.at_.words.get hx
theorem froz (h:Rl w W d g n S gm M ps cs T) (j:Nat):W.frozen? ⟨g,j,none⟩=false:=h.at_.words.froz j
theorem z1 (h:Rl w W d g n S gm M ps cs T):d.hb < W.heap.size:=h.at_.lt
theorem z2 (h:Rl w W d g n S gm M ps cs T):g < W.heap.size:=h.at_.words.lt
theorem cut {P:Program} {cd:Code} {Q:Exit->Act->World->Prop} {a:Act} (h:Rl w W d g n S gm M ps cs T) (k:∀ w',Rl w w' d g n S gm M ps cs T->cd.wp P Q a w'):cd.wp P Q a W:=k W h
end Rl
def MovePost (w:World) (d:Hd) (M:List (Nat × Int)) (S:Hp.Hs) (e:Ending) (w':World):Prop:=
 ∃ g gm,e = .returned (.map (some gm))/\HAt w' { d with gw:=g,cap:=S.words.length } S/\MapIAt Tryz.prog w' gm M/\But d.own w w'/\w.heap.size<=g/\w.heap.size<=gm/\g ≠ gm
theorem Rl.post {W:World} {cs:Nat} {ps:Option Addr} (h:Rl w W d g n S w.heap.size M ps cs T) (hg:w.heap.size+1<=g):MovePost w d M S (.returned (.map (some w.heap.size))) W:=
 ⟨g,w.heap.size,rfl,by rw [h.len];exact h.at_,h.moved,h.but,by omega,Nat.le_refl _,by omega⟩
set_option maxRecDepth 100000 in
set_option maxHeartbeats 16000000 in
theorem move_any (h:HAt w d S) (hr:S.moved=some (M,S')) :
    Calls Tryz.prog 116 #[.pointer (some ⟨d.hb,0,none⟩)] w (MovePost w d M S'):=by
  have H:=hZ (Now.refl h);obtain ⟨Wf,nf,S1,hmv,hrc,hend⟩:=moved_some hr;have HMV:=hZ hmv;have HRC:=hZ hrc;have HEND:=hZ hend;have sm:=h.small;have c2:=h.c2;have c3:=h.c3;have z1:=h.lt;have OWN:=hZ h.own_lt;have TB:=hZ (fun x (hx:x ∈ S.taken)=>(by have:=h.below x hx;omega:x < 1000000));have MAPT:=hZ h.map;obtain ⟨n,hn⟩:∃ n,S.words.length=n:=⟨_,rfl⟩
  have EN:=hZ hn;rw [hn] at sm c2;clear h hr hn hmv hrc hend;have hmm:=@run_makeMap Tryz.prog;have hmk:=run_make_row' (P:=Tryz.prog) 22 3 (.int .i64 0) 8 Tryz.underlying22 (show (Tryz.prog.info? 3).map (fun i=>(i.zero,i.size,i.bytes))=some (some (.int .i64 0),1,8) from by kernel_rfl) rfl .i64 .i64 n (by omega) (by omega);go_enter Tryz.func116,Tryz.ntmps116;go_upto_region 3 with (fail)
  have MV0:Mv w ((w.alloc (.map #[] 0)).alloc (.cells (madeCells #[.int .i64 0] n) 3)) d S (w.heap.size+1) w.heap.size (List.replicate n 0) []:=
   { toHAt:=H.out.toHAt.ext (exx)
     ext':=exx
     new:=made_at_ (w.alloc (.map #[] 0)) n _ (by simp)
     moved:=(MapIAt.made w).ext (Ext.alloc (Ext.refl _) _)
     g1:=by omega
     g2:=Nat.le_refl _
     g3:=by omega
     o0:=OWN.out
     o1:=H.out.old1
     o2:=H.out.old2 }
  refine Mv.cut MV0 ?_;clear MV0 c2 c3 hmm hmk;intro w1 MV1;have M1:=hZ MV1;have c3:=M1.out.c3;clear MV1
  go_wp2_with (first
   | (go_at_call 130;refine (keysB_call _ _).mono ?_;rintro e w3 ⟨rfl,rfl⟩)
   | (go_at_call 117;refine (sortedB_call M1.out.map (fun x hx=>TB.out x hx)).mono ?_;rintro e w4 ⟨ps,cs,rfl,SS,far4,E4⟩))
  have M4:=hZ ((M1.out.ext (Ext.alloc (Ext.refl _) _)).ext E4);have S4:=hZ SS;have PSF:=hZ (fun b o (e:ps=some ⟨b,o,none⟩)=>far4 b o e);have W4:w1.heap.size<=w4.heap.size:=Nat.le_trans (by simp) E4.le;have BIG:=hZ (show w.heap.size+1 < w1.heap.size from M1.out.new.lt);obtain ⟨T,hT⟩:∃ T,S.taken=T:=⟨_,rfl⟩
  have ET:=hZ hT;have HM0:=hZ (show Hp.Hs.moves S (T.drop 0) (List.replicate n 0) 17 []=some (Wf,nf,M) by have:=HMV.out;rw [EN.out,hT] at this;exact this);rw [hT] at S4 ⊢;have EL0:=hZ (List.length_replicate (n:=n) (a:=(0:Int)));have tl:T.length<=1000000:=by rw [<- hT];have:=H.out.taken_len;have:=H.out.small;omega
  clear hT SS far4 E4 M1 c3 HMV MAPT
  go_loopg [4,32] T.length (fun g s i wr=>∃ (j next:Nat) (V:List Int) (M1:List (Nat × Int)),j<=T.length/\T.length-j<=g/\i = .int .i64 j/\s = .int .i64 next/\next<=1000017/\M1.length<=j/\Hid (Mv w wr d S (w.heap.size+1) w.heap.size V M1)/\Hid (Hp.Hs.moves S (T.drop j) V next M1=some (Wf,nf,M))/\Hid (SliceAt wr ps cs (natInts T))/\Hid (V.length=n)/\Hid (∀ p ∈ M1,0<=p.2/\p.2<=1000017))
  case atStart=>exact ⟨0,17,_,[],by omega,by omega,rfl,rfl,by omega,by simp,M4,HM0,S4,EL0,hZ (by simp)⟩
  case round=>
   obtain ⟨j,next,V,M1,hj,hg,rfl,rfl,hnx,hml,MV,HM,SP,EV,VS⟩:=hrel;clear M4 HM0 S4 EL0
   by_cases hlt:j < T.length
   . have hm:=HM.out;rw [List.drop_eq_getElem_cons hlt] at hm;obtain ⟨x,hxe⟩:∃ x,T[j]=x:=⟨_,rfl⟩
     rw [hxe] at hm;obtain ⟨t,k,l,V1,ht,hk,hl,hV,hm⟩:=moves_cons hm;have hwk:=wide_le MV.out.toHAt hk;obtain ⟨b,o,hps,hb,hcell⟩:=SP.out.cells (by rw [natInts_length];omega);have gx:=hcell j x (natInts_get (by rw [List.getElem?_eq_getElem hlt,hxe]));have scs:=SP.out.le;have scc:=SP.out.cap;rw [natInts_length] at scs;have hsub:=(sub_at MV.out.toHAt hl k (Nat.le_refl _) (by omega)).2;have hlay:=(HAt.lay_len hV).2;rw [hsub.1,EV.out] at hlay;have hxk:=hsub.2;rw [EN.out] at hxk;have LK:=hZ hsub.1;have HT:=hZ ht;have HK:=hZ hk;have HL:=hZ hl;have HV:=hZ hV;have HM2:=hZ hm;have EV1:=hZ ((HAt.lay_len hV).1.trans EV.out);have hle:=MV.out.le;have hcap:=MV.out.cap;rw [EN.out] at hle;clear hm hxe ht hk hl hV hcell hsub HM;subst hps;go_upto_region 7 with (fail)
     have c0:=MV.out.c0;have c1:=MV.out.c1;have c2:=MV.out.c2;have z1:=MV.out.lt;have pr18a:=fun u_ (h_:Ext wr u_)=>(h_.cell z1 0).trans c0
     have pr18b:=fun u_ (h_:Ext wr u_)=>(h_.cell z1 1).trans c1
     refine wp_region_seq (S:=fun W=>Ext wr W) (R:=Ext) (by kernel_rfl) Ext.refl ?_ ?_
     . exact exx
     refine' tkL 0 ?_;refine' tkL 1 ?_;refine' tkL 2 ?_;refine' tkL 3 ?_;refine' tkL 4 ?_;refine' tkL 5 ?_;refine' tkC 6 (.int .i64 t) 76 (fun w hE=>tag_any (MV.out.toHAt.ext hE).c2 rfl MV.out.le MV.out.cap (MV.out.toHAt.ext hE).words HT.out) ?_;refine' tkC 7 (.int .i64 k) 123 (fun w hE=>wide_any (MV.out.toHAt.ext hE).sizes HK.out (by omega)) ?_;refine' tkL 8 ?_;refine wpAnyR_done (by kernel_rfl) ?_ _;intro x1 _ Ex1;clear pr18a pr18b;clear c0 c1 c2 z1;have MX:=hZ (MV.out.ext Ex1);have SX:=hZ (SP.out.ext Ex1);go_upto_region 8 with (fail)
     have i1:IntKind.i64.wrap ((x:Int)+(k:Int))=(x:Int)+(k:Int):=IntWalk.i64_in _ (by omega);have i2:(0:Int)<=(x:Int):=by omega
     have i3:(0:Int)<=(next:Int):=by omega
     have i4:(next:Int)<=(n:Int):=by omega
     have i5:(x:Int)<=(x:Int)+(k:Int):=by omega
     have i6:(x:Int)+(k:Int)<=(d.cap:Int):=by omega
     have i7:((x:Int)+(k:Int)).toNat=x+k:=by omega
     have i8:(0:Int)<=(x:Int)+(k:Int):=by omega
     have i9:¬ n=next:=by omega
     have i10:¬ d.cap=x:=by omega
     have i11:x+k-x=k:=by omega
     refine wp_region_still_tail 12 (by kernel_rfl) (by kernel_rfl) ?_;change wpStill _ _ (World.drew x1) (fun a'=>wpList _ _ _ _ a' (World.drew x1)) _ _;have ED:Ext x1 (World.drew x1):=Ext.drew (Ext.refl _);have MD:=hZ (MX.out.ext ED);generalize World.drew x1=wd at MD ED ⊢;have c3:=MD.out.c3;have f2:=MD.out.f2;have z1:=MD.out.lt;have z2:=MD.out.words.lt;have c2':=MD.out.c2;rw [EN.out] at c2';simp only [List.take_succ_cons,List.take_zero,List.drop_succ_cons,List.drop_zero]
     repeat still_step
     refine wpStill_nil ?_;have SB:=(sub_at MD.out.toHAt HL.out (d.cap-x) (by omega) (by omega)).1;obtain ⟨w9,hcp,hnew,hbut⟩:=WordsAt.copied MD.out.new SB (by rw [LK.out];omega) HV.out;rw [LK.out] at hcp;have hcp':=fun ty=>hcp (n-next) (n-next) ty (by omega)
     have MN:=hZ (MD.out.copied hbut hnew);have SN:=hZ ((SX.out.ext ED).but hbut (fun b' o' e=>by
      cases e
      have h1:=PSF.out b o rfl;have h2:=BIG.out;simp;omega))
     clear hcp hnew SB i1 i2 i3 i4 i5 i6 i7 i8;go_upto_region 9 with (fail)
     clear hcp' i9 i10 i11 c2' c3 f2 z1 z2;obtain ⟨w10,hup,hm10,ht10⟩:=MN.out.moved.put (t:=119) Tryz.underlying3 Tryz.underlying119 (by unfold maxLen;omega) (a:=x) (x:=(next:Int)) (by omega) (by omega) (by omega);have B10:But [w.heap.size] w9 w10:=(But.refl _ _).turned ht10 (.inl (by simp));have MP:=hZ (MN.out.putd B10 hm10);have SP10:=hZ (SN.out.but B10 (fun b' o' e=>by
      cases e
      have h1:=PSF.out b o rfl;have h2:=BIG.out;simp;omega))
     have PL:=putI_len x (next:Int) M1;clear hm10 ht10 B10
     go_wp2_with fail
     go_roundg (T.length-(j+1))
     case measure=>omega
     case rel=>exact ⟨j+1,next+k,V1,putI x (next:Int) M1,by omega,Nat.le_refl _,by go_num,by go_num,by omega,by omega,MP,HM2,SP10,EV1,hZ (fun p hp=>by
      rcases mem_putI hp with rfl | hp
      . simp only;omega
      . exact VS.out p hp)⟩
   have:j=T.length:=by omega
   subst this;go_upto_region 11 with (fail)
   have c2':=MV.out.c2;rw [EN.out] at c2';have c3':=MV.out.c3;have f2':=MV.out.f2;go_upto_region 12 with (fail)
   have LV:V.length=S.words.length:=by
    have h1:=EN.out;have h2:=EV.out;omega
   have HS0:=MV.out.swap LV;rw [EN.out] at HS0;have K0:But [d.hb] wr (wr.setCell ⟨d.hb,2,none⟩ (.slice (some ⟨w.heap.size+1,0,none⟩) n n)):=(But.refl _ _).setCell (.inl (by simp)) _;obtain ⟨w11,hclr,hm11,ht11⟩:=HS0.map.clear Tryz.underlying102 0;have HS1:=hZ (HS0.mapped ht11 hm11 (by simp));have o0:=MV.out.o0 _ d.hb_own;have o1:=MV.out.o0 _ d.gm_own;have B11:But [d.hb,d.gm] wr w11:=((But.refl [d.hb,d.gm] _).setCell (p:=⟨d.hb,2,none⟩) (.inl (by simp)) _).turned ht11 (.inl (by simp));have GM:=hZ (MV.out.moved.but B11 (by simp;omega));have SP11:=hZ (SP.out.but B11 (fun b o e=>by
    have h1:=PSF.out b o e;have h2:=BIG.out;simp;omega))
   have BW:=hZ (((But.ofExt (l:=d.own) MV.out.ext').setCell (p:=⟨d.hb,2,none⟩) (.inl d.hb_own) (.slice (some ⟨w.heap.size+1,0,none⟩) n n)).turned ht11 (.inl d.gm_own));clear K0 HS0 B11 hm11 ht11;go_upto_region 13 with (fail)
   have hml2:=HM.out;rw [List.drop_length] at hml2;obtain ⟨rfl,rfl,rfl⟩:V=Wf/\next=nf/\M1=M:=by simpa [Hp.Hs.moves] using hml2
   have R0:=hZ (show Rl w w11 d (w.heap.size+1) n { S with words:=V,taken:=[] } w.heap.size M1 ps cs T from
    { at_:=HS1.out,but:=BW.out,moved:=GM.out,cells:=SP11.out,len:=EV.out,a1:=by omega,a2:=by omega,a4:=by omega
      a3:=fun b o e=>by
       have h1:=PSF.out b o e;have h2:=BIG.out;omega })
   have HR0:=hZ (show Hp.Hs.rechain M1 { S with words:=V,taken:=[] } (T.drop 0)=some S1 by have:=HRC.out;rw [ET.out] at this;exact this);have bgm:w.heap.size+1<=w11.heap.size:=Nat.le_of_lt R0.out.z2;clear hml2 HM HRC HS1 GM SP11 BW MV SP PSF BIG OWN hml
   go_wp2_with fail
   go_loopg [74] T.length (fun g i wr=>∃ (j:Nat) (Sx:Hp.Hs),j<=T.length/\T.length-j<=g/\i = .int .i64 j/\Hid (Rl w wr d (w.heap.size+1) n Sx w.heap.size M1 ps cs T)/\Hid (Hp.Hs.rechain M1 Sx (T.drop j)=some S1))
   case atStart=>exact ⟨0,_,by omega,by omega,rfl,R0,HR0⟩
   case round=>
    obtain ⟨j,Sx,hj,hg,rfl,R,HR⟩:=hrel;clear R0 HR0
    by_cases hlt:j < T.length
    . have hr:=HR.out;rw [List.drop_eq_getElem_cons hlt] at hr;obtain ⟨x,hxe⟩:∃ x,T[j]=x:=⟨_,rfl⟩
      rw [hxe] at hr;obtain ⟨tt,ks,W1,head,t,fs,y,W2,W3,htt,hlt2,hks,hrk,ht,hfs,hch,hy,hW2,hW3,hr⟩:=rechain_cons hr;have HGET:=hZ htt;have HKS:=hZ hks;have HRK:=hZ hrk;have HT:=hZ ht;have HFS:=hZ hfs;have HCH:=hZ hch;have HY:=hZ hy;have HW2:=hZ hW2;have HW3:=hZ hW3;have HR2:=hZ hr;have sl:=R.out.len;rw [sl] at hlt2;have l1:=(rekid_len hrk).trans sl;have L1:=hZ l1;have L2:=hZ ((HAt.wr_len hW2).1.trans l1);have b2:=(HAt.wr_len hW2).2;rw [l1] at b2;have b3:=rd_lt hy;rw [l1] at b3;obtain ⟨b,o,hps,hb,hcell⟩:=R.out.cells.cells (by rw [natInts_length];omega);have gx:=hcell j x (natInts_get (by rw [List.getElem?_eq_getElem hlt,hxe]));have scs:=R.out.cells.le;have scc:=R.out.cells.cap;rw [natInts_length] at scs;have hxb:x < 1000000:=TB.out x (by rw [ET.out,<- hxe];exact List.getElem_mem hlt);have hlk:=R.out.moved.look (t:=119) Tryz.underlying3 Tryz.underlying119 (Tryz.zeroValue3 _) (k:=x) (by omega);rw [htt] at hlk;have c3:=R.out.c3;have tk:decide ((j:Int) < (T.length:Int))=true:=by simpa using (by omega:(j:Int) < (T.length:Int))
      obtain ⟨w5,hup,hm5,ht5⟩:=R.out.at_.map.put (t:=102) Tryz.underlying3 Tryz.underlying4 Tryz.underlying102 (by have:=R.out.at_.taken_len;have:=R.out.at_.small;unfold maxLen;omega) (a:=tt) (by omega);have R5:=hZ (R.out.mapped ht5 hm5 (fun a' ha'=>by
       rcases (mem_ins tt a' Sx.taken).1 ha' with rfl | h'
       . exact hlt2
       . have:=R.out.at_.below a' h';rw [sl] at this;exact this))
      clear hr htt hks hrk ht hfs hch hy hW2 hW3 hcell hm5 ht5 sl l1 HR;subst hps;dsimp only at hup;go_upto_region 18 with (fail)
      clear hlk c3 gx tk hup R;obtain ⟨t',ht',hkq⟩:=kids_some HKS.out;have HT':=hZ ht';have HKQ:=hZ hkq;clear ht' hkq;have ksm:ks.length<=1000000:=by
       rcases HKQ.out with ⟨_,rfl⟩ | ⟨_,hf'⟩
       . simp
       obtain ⟨_,q,_,_,h4,h5,_⟩:=fields_some hf';have:=R5.out.at_.small;simp only at h5 this;omega
      go_wp2_with (go_at_call 80;refine (kids_any R5.out.at_ HT'.out HKS.out).mono ?_;rintro e w6 ⟨rfl,hb6⟩;obtain ⟨hc6,hf6,hs6⟩:=hb6.cells)
      have R6:=hZ (R5.out.ext hb6);generalize hpk:kp { d with gw:=w.heap.size+1,cap:=n } tt t'=pk;have HPK:=hZ hpk;clear hpk hb6 hc6 hf6 hs6 R5
      go_loopg [90] ks.length (fun g i wx=>∃ (q:Nat) (V2:List Int),q<=ks.length/\ks.length-q<=g/\i = .int .i64 q/\Hid (Rl w wx d (w.heap.size+1) n { Sx with words:=V2,taken:=Hp.Hs.insert tt Sx.taken } w.heap.size M1 (some ⟨b,o,none⟩) cs T)/\Hid (Hp.Hs.rekid { Sx with taken:=Hp.Hs.insert tt Sx.taken } M1 tt (ks.length-q) q V2=some W1))
      case atStart=>exact ⟨0,Sx.words,Nat.zero_le _,by omega,rfl,R6,HRK⟩
      case round=>
       obtain ⟨q,V2,hq,hg2,rfl,RV,HQ⟩:=hrel;clear R6;have lv:=RV.out.len;dsimp only at lv
       by_cases hlt3:q < ks.length
       . obtain rfl:pk=some ⟨w.heap.size+1,tt+4,none⟩:=by
           rw [<- HPK.out]
           rcases HKQ.out with ⟨_,rfl⟩ | ⟨he,_⟩
           . simp at hlt3
           simp [kp,he]
         have hrk:=HQ.out;rw [show ks.length-q=(ks.length-(q+1))+1 by omega] at hrk;obtain ⟨k,ks2,W4,hk,hks2,hql,hW4,hrk⟩:=rekid_succ hrk;obtain ⟨t2,ht2,hkq2⟩:=kids_some hks2;have g1:=RV.out.get (ra_some hk);have vb:=getD_small (k:=k) VS.out;have kb:=RV.out.at_.words.bound (ra_some hk);have lk:=rd_lt (ra_some hk);rw [lv] at lk;have KP:kp { d with gw:=w.heap.size+1,cap:=n } tt t2=some ⟨w.heap.size+1,tt+4,none⟩:=by
          rcases hkq2 with ⟨_,rfl⟩ | ⟨he,_⟩
          . simp at hql
          simp [kp,he]
         have KA:=hZ hk;have KS:=hZ hks2;have HT2:=hZ ht2;have HKP:=hZ KP;have HW4:=hZ hW4;have HRK2:=hZ hrk;have RV4:=hZ (RV.out.set hW4 (by omega) (by omega));have tk3:decide ((q:Int) < (ks.length:Int))=true:=by simpa using (by omega:(q:Int) < (ks.length:Int))
         have hql':(q:Int) < (ks2.length:Int):=by omega
         clear hk hks2 ht2 hkq2 KP hW4 hrk HQ;go_upto_region 21 with (fail)
         have KC:∀ w',Ext wr w'->Calls Tryz.prog 80 #[.pointer (some ⟨d.hb,0,none⟩),.int .i64 tt] w' fun e w''=>e = .returned (.slice (some ⟨w.heap.size+1,tt+4,none⟩) ks2.length ks2.length)/\Ext w' w'':=fun w' hE=>by
          have:=kids_any (RV.out.at_.ext hE) HT2.out KS.out;rw [HKP.out] at this;exact this
         clear g1 tk3;refine wp_region_any (by kernel_rfl) ?_;have pr19a:=fun u_ (h_:Ext wr u_)=>(RV.out.moved.ext h_).look (t:=119) Tryz.underlying3 Tryz.underlying119 (Tryz.zeroValue3 _) (k:=k) (by omega)
         refine wpAny_to_X (S:=fun W=>Ext wr W) (R:=Ext) 7 7 Ext.refl ?_ ?_ (by rfl)
         . exact Ext.drew exx
         refine' tkY 0 ?_;refine' tkY 1 ?_;refine' tkX 2 (v:=.slice (some ⟨w.heap.size+1,tt+4,none⟩) ks2.length ks2.length) rfl (Or.inr ⟨by rfl,80,_, ?hx2_12, ?hy2_12⟩) ?rest2_12
         case hx2_12=>(intro w hSw;go_simp;try with_reducible rfl)
         case hy2_12=>exact fun w hE=>(KC _ hE).mono (fun _ _ h=>⟨h.1,h.2,Ext.trans hE h.2⟩)
         refine layy ?_;refine' tkY 3 ?_;refine' tkY 4 ?_;refine' tkY 5 ?_;refine' tkY 6 ?_;refine wpAnyX_done (by kernel_rfl) ?_;intro wd _ Ewd;clear pr19a;simp only [List.drop_succ_cons,List.drop_zero];have RD:=hZ (RV.out.ext Ewd);have g1:=RD.out.get (ra_some KA.out);have f1:=RD.out.froz (tt+4+q);have R7:=hZ (RD.out.set HW4.out (by omega) (by omega));clear KC RV Ewd;go_upto_region 22 with (fail)
         refine Rl.cut R7.out ?_;clear R7 RD g1 f1 RV4;intro w7 N7;have R7:=hZ N7;clear N7
         go_wp2_with fail
         go_roundg (ks.length-(q+1))
         case measure=>omega
         case rel=>exact ⟨q+1,W4,by omega,Nat.le_refl _,by go_num,R7,HRK2⟩
       have:q=ks.length:=by omega
       subst this;have hrk:=HQ.out;rw [Nat.sub_self] at hrk;obtain rfl:V2=W1:=by simpa [Hp.Hs.rekid] using hrk
       have FA:=fields_at RV.out.at_ HFS.out;dsimp only at FA;clear hrk HQ HPK lv
       go_upto_region 24 with (first
        | (go_at_call 76;refine (tag_any RV.out.at_.c2 rfl RV.out.at_.le RV.out.at_.cap RV.out.at_.words HT.out).mono ?_;rintro e w7 ⟨rfl,hb7⟩;obtain ⟨hc7,hf7,hs7⟩:=hb7.cells)
        | (go_at_call 79;refine (fields_any (RV.out.ext hb7).at_ HFS.out).mono ?_;rintro e w8 ⟨rfl,hb8⟩;obtain ⟨hc8,hf8,hs8⟩:=hb8.cells)
        | (go_at_call 132;refine (chain_any ((FA.ext hb7).ext hb8) HCH.out).mono ?_;rintro e w9 ⟨rfl,hb9⟩;obtain ⟨hc9,hf9,hs9⟩:=hb9.cells))
       have R9:=hZ (((RV.out.ext hb7).ext hb8).ext hb9);clear FA RV hb7 hc7 hf7 hs7 hb8 hc8 hf8 hs8 hb9 hc9 hf9 hs9;have c2:=R9.out.c2;have z1:=R9.out.z1;have z2:=R9.out.z2;have g:=R9.out.get HY.out;have BY:=hZ (R9.out.at_.words.bound HY.out);obtain ⟨k1,k2,k3,k4⟩:IntKind.i64.wrap (((tt:Nat):Int)+3)=((tt:Nat):Int)+3/\(0:Int)<=((tt:Nat):Int)+3/\((tt:Nat):Int)+3 < ((n:Nat):Int)/\(((tt:Nat):Int)+3).toNat=tt+3:=⟨IntWalk.i64_in _ (by omega),by omega,by omega,by omega⟩
       refine wp_region_any (by kernel_rfl) ?_;refine' tkA 6 rfl ?hy6_17 ?_
       case hy6_17=>(intro w;go_simp;try with_reducible rfl)
       refine layy ?_;refine' tkA 7 rfl ?hy7_18 ?_
       case hy7_18=>(intro w;go_simp;try with_reducible rfl)
       refine layy ?_;refine' tkA 12 rfl ?hy12_19 ?_
       case hy12_19=>(intro w;go_simp;try with_reducible rfl)
       refine layy ?_;have pr20a:=fun u_ (h_:Ext w9 u_)=>(h_.cell z1 2).trans c2
       have pr20b:=fun u_ (h_:Ext w9 u_)=>(h_.cell z2 head).trans g
       refine wpAny_to_X (S:=fun W=>Ext w9 W) (R:=Ext) 13 10 Ext.refl ?_ ?_ (by rfl)
       . exact Ext.drew exx
       refine' tkY 0 ?_;refine' tkY 1 ?_;refine' tkY 2 ?_;refine' tkY 3 ?_;refine' tkY 4 ?_;refine' tkY 5 ?_;refine' tkY 8 ?_;refine' tkY 9 ?_;refine' tkY 10 ?_;refine' tkY 11 ?_;refine wpAnyX_done (by kernel_rfl) ?_;intro wd _ Ewd;clear pr20a pr20b;simp only [List.drop_succ_cons,List.drop_zero];clear c2 z1 z2 g k1 k2 k3 k4;have RD:=hZ (R9.out.ext Ewd);obtain ⟨y1,hy1⟩:=rd_get (l:=V2) (j:=tt+3) (by rw [L1.out];exact b2);obtain ⟨y2,hy2⟩:=rd_get (l:=W2) (j:=head) (by rw [L2.out];exact b3);have g1:=RD.out.get hy1;have f1:=RD.out.froz (tt+3);have R10:=hZ (RD.out.set HW2.out BY.out.1 BY.out.2);have g2:=R10.out.get hy2;have f2:=R10.out.froz head;have R11:=hZ (R10.out.set HW3.out (by omega) (by omega));clear hy1 hy2 R9 Ewd;go_upto_region 25 with (fail)
       refine Rl.cut R11.out ?_;clear R11 R10 RD g1 g2 f1 f2;intro w12 N12;have R12:=hZ N12;clear N12
       go_wp2_with fail
       go_roundg (T.length-(j+1))
       case measure=>omega
       case rel=>exact ⟨j+1,_,by omega,Nat.le_refl _,by go_num,R12,HR2⟩
    have:j=T.length:=by omega
    subst this;have hr:=HR.out;rw [List.drop_length] at hr;obtain rfl:Sx=S1:=by simpa [Hp.Hs.rechain] using hr
    have lv:=R.out.len;have hend:=HEND.out;rw [EV.out] at hend;clear hr HR HEND
    rcases hend with ⟨hlt2,V1,V2,hV1,hV2,rfl⟩ | ⟨hge,rfl⟩
    . have HV1:=hZ hV1;have HV2:=hZ hV2;have b1:=(HAt.wr_len hV1).2;have b2:=(HAt.wr_len hV2).2;rw [(HAt.wr_len hV1).1,lv] at b2;rw [lv] at b1;have L2:=hZ ((HAt.wr_len hV2).1.trans ((HAt.wr_len hV1).1.trans lv));obtain ⟨y1,hy1⟩:=rd_get (l:=Sx.words) (j:=16) (by rw [lv];exact b1);obtain ⟨y2,hy2⟩:=rd_get (l:=V1) (j:=next+1) (by rw [(HAt.wr_len hV1).1,lv];exact b2);have HY1:=hZ hy1;have HY2:=hZ hy2;have tk:decide ((0:Int) < (n:Int)-(next:Int))=true:=by simpa using (by omega:(0:Int) < (n:Int)-(next:Int))
      clear hV1 hV2 hy1 hy2;have g1:=R.out.get HY1.out;have f1:=R.out.froz 16;have R1:=hZ (R.out.set HV1.out (by omega) (by omega));have g2:=R1.out.get HY2.out;have f2:=R1.out.froz (next+1);have R2:=hZ (R1.out.set HV2.out (by omega) (by omega));go_upto_region 29 with (fail)
      refine Rl.cut R2.out ?_;clear R1 R2 g1 g2 f1 f2;intro w12 N12;have R12:=hZ N12;clear N12
      go_wp2_with fail
      go_returns;exact R12.out.post (by omega)
    have tk:decide ((0:Int) < (n:Int)-(next:Int))=false:=dF
    go_wp2_with fail
    go_returns;exact R.out.post (by omega)
open Go.RowKit Go.Maps
section
open Go.Sort Go.Shelf
def keysI (M:List (Nat × Int)):List Nat:=M.map fun p=>p.1
theorem intKeys_mapOfI (M:List (Nat × Int)):intKeys (mapOfI M)=natInts (keysI M):=by
 simp only [intKeys,mapOfI,natInts,keysI,List.map_map]
 rfl
theorem keysI_sorted (h:KeysUp M):(keysI M).Pairwise (· < ·):=by
 unfold keysI
 rw [List.pairwise_map]
 exact h
theorem keysI_call (g:Nat) (W:World):Calls Tryz.prog 118 #[.map (some g)] W fun e w'=>e = .returned (.func (.func 164) #[] #[.pointer (some ⟨W.heap.size,0,none⟩)])/\w'=W.alloc (.cells #[.map (some g)] 119):=
 callsIn_wide.1 (AnyZI.keys_in Tryz.keysI Fence.wide 5 trivial rfl (some g) W)
theorem sortedI_call (h:MapIAt Tryz.prog w g M) (hT:∀ x ∈ keysI M,x < 1000000) :
    Calls Tryz.prog 117 #[.func (.func 164) #[] #[.pointer (some ⟨w.heap.size,0,none⟩)]] (w.alloc (.cells #[.map (some g)] 119)) (SortedPost w (w.alloc (.cells #[.map (some g)] 119)) (keysI M)):=by
  have hbl:=h.lt;have hsrt:=keysI_sorted h.up;have hlen:=sorted_len hsrt hT;have hlk:(keysI M).length=M.length:=by simp [keysI]
  have hown:=h.owns
  have hseq:SeqGives Fence.wide 2 Tryz.prog 164 #[.pointer (some ⟨w.heap.size,0,none⟩)] encZ (fun ss=>ss.Perm (intKeys (mapOfI M))) (Maps.size (mapOfI M)) (w.alloc (.cells #[.map (some g)] 119)):=
   AnyZI.keys_gives (ρ:=Tryz.keysI_ren) { Tryz.keysI with } Fence.wide _ trivial rfl (by omega) w.heap.size g M.length (mapOfI M) _ (by simp) (by simp) (hown.alloc _)
  have cS:=AnyZI.sorted_in Tryz.sortedA Fence.wide 5 trivial trivial trivial trivial rfl (by omega) (sortsA _) (enters_of Tryz.func163 (by kernel_rfl) rfl) 164 #[.pointer (some ⟨w.heap.size,0,none⟩)] trivial (enters_of Tryz.func164 (by kernel_rfl) rfl) _ _ (by rw [size_mapOfI];unfold maxLen;omega) (by rw [size_mapOfI];omega) _ hseq;refine (callsIn_wide.1 cS).mono ?_;rintro e w' ⟨v,ss,rfl,hS,hrow,hnil,hb⟩;rw [intKeys_mapOfI] at hS;generalize keysI M=T at *;rw [sorted_natInts hsrt hS] at hrow;have hl:ss.length=T.length:=by rw [hS.length_eq,natInts_length]
  rw [hl] at hrow;have hbd:∀ x ∈ natInts T,-9223372036854775808<=x/\x<=9223372036854775807:=by
   intro x hx;obtain ⟨y,hy,rfl⟩:=List.mem_map.1 hx;have:=hT y hy;omega
  rcases hrow.2 with ⟨rfl,hz⟩ | ⟨gb,cap,cur,rfl,hbase,hgb,r1,r2,r3,r4⟩
  . have:T=[]:=List.eq_nil_of_length_eq_zero hz;subst this;exact ⟨none,0,rfl,⟨by simp [natInts],by omega,hbd,fun h=>by simp [natInts] at h⟩,by simp,hb⟩
  refine ⟨some ⟨gb,0,none⟩,cap,rfl,⟨?_, ?_,hbd,fun h0=>⟨gb,0,rfl,(Array.getElem?_eq_some_iff.1 hgb).1,fun j x hj=>?_⟩⟩,fun b o e=>by cases e;simp at hbase;omega,hb⟩
  . rw [natInts_length];omega
  . unfold maxLen at *;omega
  have hj2:((natInts T).map encZ)[j]? = some (.int .i64 x):=by
   unfold Hp.rd at hj;simp [hj,encZ]
  have:=hrow.cells (g:=gb) rfl j _ hj2;rw [Addr.add_lit] at this
  simpa using this
end
theorem wpList_append_ints {w:World} {ops:Array Oper} {rest:List Oper} {o:Oper} {a:Act} {Q:Exit->Act->World->Prop} (hgd:o.guard=none) (s x:Operand)
    (ho:o.op = .call { callee:=.builtin .append,args:=#[s,x],argTypes:=#[22,22] }) {base c b:Nat} {p:Option Addr} {l ys:List Int} (hs:a.eval s = .slice p l.length c) (hx:a.eval x = .slice (some ⟨b,0,none⟩) ys.length ys.length) (hys0:0 < ys.length)
    (hrow:Row w base p c l) (hy:∀ j y,Hp.rd ys j=some y->w.cell? ⟨b,j,none⟩=some (.int .i64 y)) (hyb:∀ y ∈ ys,-9223372036854775808<=y/\y<=9223372036854775807) (hlen:l.length+ys.length < 10000000) (hbase:base<=w.heap.size)
    (h:∀ g cap w',Row w' base (some ⟨g,0,none⟩) cap (l ++ ys)->(∃ row,w.grownBy w' row /\ ∀ r,row=some r->base<=r)->wpList Tryz.prog ops Q rest (a.put o.dst (.slice (some ⟨g,0,none⟩) (l.length+ys.length) cap)) w'):wpList Tryz.prog ops Q (o :: rest) a w:=by
  obtain ⟨i0,hi,hz0,hz1,hz2⟩:=info_parts (show (Tryz.prog.info? 3).map (fun i=>(i.zero,i.size,i.bytes))=some (some (.int .i64 0),1,8) from by kernel_rfl)
  refine wpList_append_lies w hgd s x 22 ho base 3 i0 (.int .i64 0) 1 8 Tryz.underlying22 hi hz0 hz1 hz2 rfl (by decide) _ _ _ hs hrow.1 ⟨b,0,none⟩ ys.length ys.length (ints ys) hx (by simp [ints]) (fun j u hj=>?_) (by
      intro v hv;obtain ⟨y,_,rfl⟩:=List.mem_map.1 hv;rfl) (by omega) (by unfold maxLen;omega) (by omega) hbase _ rfl ?_
  . unfold ints at hj;rw [List.getElem?_map] at hj
    cases hq:ys[j]? with
    | none=>rw [hq] at hj;cases hj
    | some y=>
     rw [hq] at hj
     cases hj
     rw [Addr.add_lit];have:=hy j y hq
     simpa using this
  intro g cap w' hown hgrow hor _;have hown':=hown;have e1:(l ++ ys).length=l.length+ys.length:=by simp
  refine h g cap w' ⟨by rw [e1];simpa [ints] using hown',fun z hz=>?_⟩ ⟨_,hgrow,fun r hr=>?_⟩
  . rcases List.mem_append.1 hz with hz | hz
    . exact hrow.2 z hz
    exact hyb z hz
  cases p with
  | none=>simp [Value.ownBlock] at hr
  | some q=>
   have hr':q.block=r:=by simpa [Value.ownBlock] using hr
   subst hr'
   rcases hrow.1.2 with ⟨e,_⟩ | ⟨g',cap',cur,e,h1,_⟩
   . injection e with e1
     cases e1
   injection e with e1
   cases e1
   exact h1
def told (M:List (Nat × Int)):List Int:=M.flatMap fun p=>if p.2 ≠ p.1 then [(p.1:Int),p.2] else []
theorem told_snoc {p:Nat × Int} (h:M[j]? = some p):told (M.take (j+1))=told (M.take j) ++ (if p.2 ≠ p.1 then [(p.1:Int),p.2] else []):=by
 obtain ⟨hl,rfl⟩:=List.getElem?_eq_some_iff.1 h
 unfold told
 rw [List.take_succ_eq_append_getElem hl,List.flatMap_append,List.flatMap_cons,List.flatMap_nil,List.append_nil]
theorem told_len:∀ M:List (Nat × Int),(told M).length<=2 * M.length
 | []=>by simp [told]
 | p :: r=>by
  have:=told_len r;unfold told at this ⊢;rw [List.flatMap_cons,List.length_append]
  split <;> simp only [List.length_cons,List.length_nil] <;> omega
theorem getI_at:∀ {M:List (Nat × Int)} {j:Nat} {p:Nat × Int},KeysUp M->M[j]? = some p->getI p.1 M=some p.2
 | [],j,p,_,h=>by simp at h
 | (a,v) :: r,0,p,_,h=>by
  simp at h;subst h;simp [getI]
 | (a,v) :: r,j+1,p,hu,h=>by
  obtain ⟨h1,h2⟩:=List.pairwise_cons.1 hu;have hp:p ∈ r:=List.mem_of_getElem? (by simpa using h);have:=h1 p hp;simp only at this;unfold getI;rw [if_neg (by omega)];exact getI_at h2 (by simpa using h)
structure Cp (w W:World) (B:Nat) (own:List Nat) (d:Hd) (S:Hp.Hs) (gm:Nat) (M:List (Nat × Int)) (ps:Option Addr) (cs:Nat):Prop where
 at_:HAt W d S
 but:But own w W
 moved:MapIAt Tryz.prog W gm M
 cells:SliceAt W ps cs (natInts (keysI M))
 b1:∀ b ∈ d.own,b < B
 b2:∀ b o,d.sp=some ⟨b,o,none⟩->b < B
 b3:∀ b o,d.op=some ⟨b,o,none⟩->b < B
 b4:gm < B
 b5:∀ b o,ps=some ⟨b,o,none⟩->0 < M.length->b < B
 b6:w.heap.size<=B
 b7:B<=W.heap.size
theorem SliceAt.below_ (h:SliceAt w p c l) (k:Below B w w') (hp:∀ b o,p=some ⟨b,o,none⟩->0 < l.length->b < B):SliceAt w' p c l:=by
 refine ⟨h.le,h.cap,h.wf,fun h0=>?_⟩
 obtain ⟨b,o,rfl,hb,hc⟩:=h.cells h0
 exact ⟨b,o,rfl,Nat.lt_of_lt_of_le hb k.size,fun j x hx=>(k.cell (p:=⟨b,o+j,none⟩) (hp b o rfl h0)).trans (hc j x hx)⟩
theorem Cp.below {W:World} {own:List Nat} {gm:Nat} {ps:Option Addr} {cs:Nat} (h:Cp w W B own d S gm M ps cs) (k:Below B W W'):Cp w W' B own d S gm M ps cs:=
 { at_:=h.at_.below_ k h.b1 h.b2 h.b3
   but:=⟨k.os.trans h.but.os,k.tape.trans h.but.tape,k.output.trans h.but.output,Nat.le_trans h.but.size k.size,fun i hi hn=>(k.block i (Nat.lt_of_lt_of_le hi h.b6)).trans (h.but.block i hi hn)⟩
   moved:=h.moved.ofBlock (k.block _ h.b4)
   cells:=h.cells.below_ k (fun b o e h0=>h.b5 b o e (by simpa [natInts,keysI] using h0))
   b1:=h.b1
   b2:=h.b2
   b3:=h.b3
   b4:=h.b4
   b5:=h.b5
   b6:=h.b6
   b7:=Nat.le_trans h.b7 k.size }
theorem below_grown {W:World} {row:Option Nat} (k:W.grownBy W' row) (hr:∀ r,row=some r->B<=r) (hB:B<=W.heap.size):Below B W W':=
 ⟨k.os,k.tape,k.output,k.size,fun i hi=>k.block i (by omega) (fun e=>by have:=hr i e.symm;omega)⟩
theorem compacted_some (h:S.compacted=some (l,S')):∃ m S1 M,S.collect=some (m,S1)/\S1.moved=some (M,S')/\l=told M:=by
 unfold Hp.Hs.compacted at h
 simp only [Option.bind_eq_bind,Option.bind_eq_some_iff] at h
 obtain ⟨⟨m,S1⟩,h1,⟨M,S2⟩,h2,h⟩:=h
 simp only [Option.some.injEq,Prod.mk.injEq] at h
 obtain ⟨rfl,rfl⟩:=h
 exact ⟨m,S1,M,h1,h2,rfl⟩
def CompPost (w:World) (d:Hd) (l:List Int) (S:Hp.Hs) (e:Ending) (w':World):Prop:=
 ∃ g p c,e = .returned (.tuple #[.slice p l.length c,.int .i64 0])/\HAt w' { d with gw:=g,cap:=S.words.length } S/\But d.own w w'/\w.heap.size<=g/\SliceAt w' p c l /\ ∀ b o,p=some ⟨b,o,none⟩->w.heap.size<=b
theorem moves_spec {S:Hp.Hs}:∀ {L:List Nat} {V V':List Int} {next nf:Nat} {M M':List (Nat × Int)},Hp.Hs.moves S L V next M=some (V',nf,M')->V'.length=V.length /\ ∀ p ∈ M',p ∈ M \/ (p.1 ∈ L/\0<=p.2/\p.2<=V.length)
 | [],V,V',next,nf,M,M',h=>by
  obtain ⟨rfl,rfl,rfl⟩:V=V'/\next=nf/\M=M':=by simpa [Hp.Hs.moves] using h
  exact ⟨rfl,fun p hp=>.inl hp⟩
 | a :: r,V,V',next,nf,M,M',h=>by
  obtain ⟨t,k,l,V1,_,_,_,hV,h⟩:=moves_cons h;obtain ⟨h1,h2⟩:=moves_spec h;have h3:=HAt.lay_len hV;refine ⟨h1.trans h3.1,fun p hp=>?_⟩
  rcases h2 p hp with h | ⟨h,h4,h5⟩
  . rcases mem_putI h with rfl | h
    . exact .inr ⟨by simp,by simp,by simp only;omega⟩
    exact .inl h
  exact .inr ⟨by simp [h],h4,by rw [h3.1] at h5;exact h5⟩
set_option maxRecDepth 100000 in
set_option maxHeartbeats 16000000 in
theorem Compact_any (h:HAt w d S) (hr:S.compacted=some (l,S')) :
    Calls Tryz.prog 51 #[.pointer (some ⟨d.hb,0,none⟩)] w (CompPost w d l S'):=by
  obtain ⟨m,S1,M,hc,hm,rfl⟩:=compacted_some hr;have H:=hZ (Now.refl h);have HC:=hZ hc;have HM:=hZ hm;have OWN:=hZ h.own_lt;clear h hr hc hm;go_enter Tryz.func51,Tryz.ntmps51
  go_upto_region 5 with (first
   | (go_at_call 72;refine (isMade_yes H.out.toHAt).mono ?_;rintro e w1 ⟨rfl,hb1⟩;obtain ⟨hc1,hf1,hs1⟩:=hb1.cells)
   | (go_at_call 111;refine (collect_any (H.out.ext hb1).toHAt HC.out).mono ?_;rintro e w2 ⟨rfl,hA2,hB2⟩)
   | (go_at_call 116;refine (move_any hA2 HM.out).mono ?_;rintro e w3 ⟨g,gm,rfl,hA3,hM3,hB3,z1,z2,z3⟩))
  have B3:But d.own w w3:=((But.ofExt hb1).trans hB2).trans hB3;have MS:∀ p ∈ M,p.1 < 1000000/\0<=p.2/\p.2<=1000000:=by
   obtain ⟨Wf,nf,Sx,hmv,_⟩:=moved_some HM.out;intro p hp;have hb:=hA2.below;have hs:=hA2.small
   rcases (moves_spec hmv).2 p hp with h | ⟨h1,h2,h3⟩
   . cases h
   have:=hb _ h1;simp only [List.length_replicate] at h3;omega
  have KX:∀ x ∈ keysI M,x < 1000000:=fun x hx=>by
   obtain ⟨p,hp,rfl⟩:=List.mem_map.1 hx;exact (MS p hp).1
  have KU:=hM3.up;have KL:(keysI M).length=M.length:=by simp [keysI]
  have ML:M.length<=1000000:=by
   rw [<- KL];exact sorted_len (keysI_sorted KU) KX
  have zw:w.heap.size<=w2.heap.size:=Nat.le_trans hb1.le hB2.size;have MSH:=hZ MS;have A3:=hZ hA3;have M3:=hZ hM3;have BB:=hZ B3;have KUH:=hZ KU;have own3:=hZ hA3.own_lt;have old31:=hZ hA3.old1;have old32:=hZ hA3.old2;have gml:=hM3.lt;clear hA2 hB2 hA3 hM3 hB3 B3 MS H HC HM OWN KU
  go_wp2_with (first
   | (go_at_call 118;refine (keysI_call _ _).mono ?_;rintro e w4 ⟨rfl,rfl⟩)
   | (go_at_call 117;refine (sortedI_call M3.out KX).mono ?_;rintro e w5 ⟨ps,cs,rfl,SS,far5,E5⟩))
  have E35:Ext w3 w5:=Ext.trans (Ext.alloc (Ext.refl _) _) E5;have z5:w3.heap.size<=w5.heap.size:=E35.le;have z6:w2.heap.size<=w3.heap.size:=by
   have:=own3.out g (by simp [Hd.own]);omega
  have C5:=hZ (show Cp w w5 w5.heap.size d.own { d with gw:=g,cap:=S'.words.length } S' gm M ps cs from
   { at_:=A3.out.ext E35,but:=BB.out.ext E35,moved:=M3.out.ext E35,cells:=SS
     b1:=fun b hb=>by have:=own3.out b hb;omega
     b2:=fun b o e=>by have:=old31.out b o e;omega
     b3:=fun b o e=>by have:=old32.out b o e;omega
     b4:=by omega
     b5:=fun b o e h0=>by
      obtain ⟨b',o',e',hb',_⟩:=SS.cells (by rw [natInts_length,KL];exact h0);rw [e] at e'
      cases e'
      exact hb'
     b6:=by omega
     b7:=Nat.le_refl _ })
  have R5:=hZ (Row.nil w5 w5.heap.size);clear SS far5 E5 E35 A3 M3 BB own3 old31 old32 KX;obtain ⟨B,hB⟩:∃ B,w5.heap.size=B:=⟨_,rfl⟩
  rw [hB] at C5 R5 z5;clear hB
  go_loopg [2,18] M.length (fun g' s i wr=>∃ (j:Nat) (p:Option Addr) (c:Nat) (l:List Int),j<=M.length/\M.length-j<=g'/\i = .int .i64 j/\s = .slice p l.length c/\Hid (l=told (M.take j))/\Hid (Cp w wr B d.own { d with gw:=g,cap:=S'.words.length } S' gm M ps cs)/\Hid (Row wr B p c l))
  case atStart=>exact ⟨0,none,0,[],Nat.zero_le _,by omega,rfl,rfl,hZ (by simp [told]),C5,R5⟩
  case round=>
   obtain ⟨j,p,c,l,hj,hg,rfl,rfl,HL,C,R⟩:=hrel;clear C5 R5;have hll:l.length<=2 * M.length:=by
    rw [HL.out];have h1:=told_len (M.take j);have h2:=List.length_take_le j M;omega
   by_cases hlt:j < M.length
   . obtain ⟨q,hq⟩:∃ q,M[j]? = some q:=⟨M[j],List.getElem?_eq_getElem hlt⟩
     have HQ:=hZ hq;obtain ⟨x,v⟩:=q;have hms:=MSH.out (x,v) (List.mem_of_getElem? hq);simp only at hms;have hget:getI x M=some v:=getI_at KUH.out hq;obtain ⟨b,o,hps,hb,hcell⟩:=C.out.cells.cells (by rw [natInts_length,KL];omega);have gx:=hcell j x (natInts_get (by simp [keysI,hq]));have scs:=C.out.cells.le;have scc:=C.out.cells.cap;rw [natInts_length,KL] at scs;have hlk:=C.out.moved.look (t:=119) Tryz.underlying3 Tryz.underlying119 (Tryz.zeroValue3 _) (k:=x) (by omega);rw [hget] at hlk;dsimp only [Option.getD_some] at hlk;have tk:decide ((j:Int) < (M.length:Int))=true:=by simpa using (by omega:(j:Int) < (M.length:Int))
     clear hq hget hcell;subst hps
     by_cases hv:v=(x:Int)
     . have t0:(v != (x:Int))=false:=by simpa using hv
       have HV:=hZ hv;clear hv
       go_wp2_with fail
       go_roundg (M.length-(j+1))
       case measure=>omega
       case rel=>exact ⟨j+1,p,c,l,by omega,Nat.le_refl _,by go_num,rfl,hZ (by rw [told_snoc HQ.out,HL.out];simp [HV.out]),C,R⟩
     have t0:(v != (x:Int))=true:=by simpa using hv
     have HV:=hZ hv;clear hv;have EA:Ext wr (wr.alloc (.cells #[.int .i64 (x:Int),.int .i64 v] 3)):=Ext.alloc (Ext.refl _) _;have RA:=hZ (R.out.ext EA);have CA:=hZ (C.out.below (Below.mono EA C.out.b7));have b7:=C.out.b7;have hyc:∀ j y,Hp.rd [(x:Int),v] j=some y->(wr.alloc (.cells #[.int .i64 (x:Int),.int .i64 v] 3)).cell? ⟨wr.heap.size,j,none⟩=some (.int .i64 y):=by
      intro j y hj
      match j,hj with
      | 0,hj=>simp [Hp.rd] at hj;subst hj;simp [go_sem]
      | 1,hj=>simp [Hp.rd] at hj;subst hj;simp [go_sem]
      | j+2,hj=>simp [Hp.rd] at hj
     have hyb:∀ y ∈ [(x:Int),v],-9223372036854775808<=y/\y<=9223372036854775807:=by
      intro y hy
      rcases List.mem_cons.1 hy with rfl | hy
      . omega
      have:y=v:=by simpa using hy
      subst this;omega
     have hbl:B<=(wr.alloc (.cells #[.int .i64 (x:Int),.int .i64 v] 3)).heap.size:=Nat.le_trans b7 EA.le;have hln:l.length + [(x:Int),v].length < 10000000:=by simp;omega
     have HYC:=hZ hyc;have HYB:=hZ hyb;clear hyc hyb
     go_wp2_with (at_builtin;refine wpList_append_ints rfl _ _ rfl (ys:=[(x:Int),v]) rfl rfl (by simp) RA.out HYC.out HYB.out hln hbl ?_;intro g8 c8 x8 hR8 hG8)
     obtain ⟨row,hgr,hrow⟩:=id hG8;have C8:=hZ (CA.out.below (below_grown hgr hrow hbl))
     go_roundg (M.length-(j+1))
     case measure=>omega
     case rel=>exact ⟨j+1,_,c8,l ++ [(x:Int),v],by omega,Nat.le_refl _,by go_num,by simp,hZ (by rw [told_snoc HQ.out,HL.out];simp [HV.out]),C8,hZ hR8⟩
   have:j=M.length:=by omega
   subst this
   go_wp2_with fail
   go_returns;have hl:=HL.out;rw [List.take_length] at hl;subst hl;exact ⟨g,p,c,rfl,C.out.at_,C.out.but,by omega,R.out.at_,fun b o e=>Nat.le_trans C.out.b6 (R.out.far e)⟩
open Go.RowKit
namespace Hp
def nameOf (L:List Int) (a:Int):Int:=if 0<=a then L.getD a.toNat 0 else 0
structure Act' where
 kind:Int
 a:Int
 list:List Int
 fault:Int
 n:Int
structure Sc where
 S:Hs
 res:List Int
 ats:List Int
def Sc.note (s:Sc) (r e:Int) (isA:Bool):Sc:={ s with res:=s.res ++ [if e ≠ 0 then -e else r],ats:=s.ats ++ [if e ≠ 0 then 0 else if isA then r else 0] }
def Sc.forget (s:Sc):Sc:={ s with ats:=s.ats.map fun a=>if s.S.has a then a else 0 }
def Sc.do' (s:Sc) (x:Act'):Option Sc:=
 if x.kind=1 then do
  let (r,e,S) <- s.S.end' x.fault x.n
  some ({ s with S:=S }.note r e true)
 else if x.kind=2 \/ x.kind=3 then
  let kids:=x.list.map (nameOf s.ats)
  if kids.contains 0 then some (s.note 0 7 false) else
  if x.kind=2 then do
   let (r,e,S) <- s.S.make x.a kids
   some ({ s with S:=S }.note r e true)
  else do
   let (r,e) <- s.S.find x.a kids
   some (s.note r e true)
 else if x.kind=4 \/ x.kind=5 then
  if nameOf s.ats x.a=0 then some (s.note 0 7 false) else
  if x.kind=4 then do
   let (e,S) <- s.S.hold (nameOf s.ats x.a)
   some ({ s with S:=S }.note 0 e false)
  else do
   let (e,S) <- s.S.drop (nameOf s.ats x.a)
   some ({ s with S:=S }.note 0 e false)
 else if x.kind=6 then do
  let (m,S) <- s.S.collect
  some (({ s with S:=S }.forget).note m 0 false)
 else if x.kind=7 then do
  let (_,S) <- s.S.collect
  let s:=({ s with S:=S }:Sc).forget
  let (M,S) <- s.S.moved
  some (({ s with S:=S,ats:=s.ats.map fun a=>if a < 0 then 0 else (getI a.toNat M).getD 0 }:Sc).note 0 0 false)
 else some (s.note 0 7 false)
def Sc.play (s:Sc):List Act'->Option Sc
 | []=>some s
 | x :: r=>do (<- s.do' x).play r
end Hp
structure ScAt (w0 w:World) (sb:Nat) (d:Hd) (s:Hp.Sc) (p1:Option Addr) (k1:Nat) (p2:Option Addr) (k2:Nat):Prop extends HAt w d s.S where
 ext0:Ext w0 w
 h0:w.cell? ⟨sb,0,none⟩=some (.pointer (some ⟨d.hb,0,none⟩))
 h1:w.cell? ⟨sb,1,none⟩=some (.slice p1 s.res.length k1)
 h2:w.cell? ⟨sb,2,none⟩=some (.slice p2 s.ats.length k2)
 fz:∀ k,w.frozen? ⟨sb,k,none⟩=false
 r1:Row w 0 p1 k1 s.res
 r2:Row w 0 p2 k2 s.ats
 sb0:w0.heap.size<=sb
 own0:∀ b ∈ d.own,w0.heap.size<=b
 sbn:sb ∉ d.own
 n1:∀ b o,p1=some ⟨b,o,none⟩->w0.heap.size<=b/\b ∉ d.own/\b ≠ sb
 n2:∀ b o,p2=some ⟨b,o,none⟩->w0.heap.size<=b/\b ∉ d.own/\b ≠ sb
 n12:∀ b o b' o',p1=some ⟨b,o,none⟩->p2=some ⟨b',o',none⟩->b ≠ b'
 spn:∀ b o,d.sp=some ⟨b,o,none⟩->b ≠ sb/\(∀ o',p1 ≠ some ⟨b,o',none⟩) /\ ∀ o',p2 ≠ some ⟨b,o',none⟩
 opn:∀ b o,d.op=some ⟨b,o,none⟩->b ≠ sb/\(∀ o',p1 ≠ some ⟨b,o',none⟩) /\ ∀ o',p2 ≠ some ⟨b,o',none⟩
theorem Row.but_ (h:Row w base p c l) {bs:List Nat} (k:But bs w w') (hb:∀ b o,p=some ⟨b,o,none⟩->b ∉ bs):Row w' base p c l:=by
 refine ⟨⟨h.1.1, ?_⟩,h.2⟩
 rcases h.1.2 with e | ⟨g,cap,cur,e,h1,hg,r⟩
 . exact .inl e
 refine .inr ⟨g,cap,cur,e,h1, ?_,r⟩
 have hl:=(Array.getElem?_eq_some_iff.1 hg).1
 injection e with e1
 rw [k.block g hl (hb g 0 e1)]
 exact hg
namespace ScAt
variable {w0 w w':World} {sb:Nat} {d:Hd} {s:Hp.Sc} {p1 p2:Option Addr} {k1 k2:Nat}
theorem lt1 (h:ScAt w0 w sb d s p1 k1 p2 k2):sb < w.heap.size:=cell_lt h.h0
theorem ext (h:ScAt w0 w sb d s p1 k1 p2 k2) (k:Ext w w'):ScAt w0 w' sb d s p1 k1 p2 k2:=
 { h with
   toHAt:=h.toHAt.ext k
   ext0:=h.ext0.trans k
   h0:=(k.cell h.lt1 0).trans h.h0
   h1:=(k.cell h.lt1 1).trans h.h1
   h2:=(k.cell h.lt1 2).trans h.h2
   fz:=fun j=>(k.frozen h.lt1 j).trans (h.fz j)
   r1:=h.r1.ext k
   r2:=h.r2.ext k }
theorem turn (h:ScAt w0 w sb d s p1 k1 p2 k2) (k:But d.own w w') (h':HAt w' { d with gw:=g,cap:=cap } S') (hg:g=d.gw \/ w.heap.size<=g):ScAt w0 w' sb { d with gw:=g,cap:=cap } { s with S:=S' } p1 k1 p2 k2:=by
 have hl:=h.lt1
 have hlt:∀ b o,(p1=some ⟨b,o,none⟩->b < w.heap.size)/\(p2=some ⟨b,o,none⟩->b < w.heap.size):=fun b o=>⟨fun e=>by
  rcases h.r1.1.2 with ⟨e',_⟩ | ⟨g',_,_,e',_,hg',_⟩
  . injection e' with e1
    rw [e] at e1
    cases e1
  . injection e' with e1
    rw [e] at e1
    cases e1
    exact (Array.getElem?_eq_some_iff.1 hg').1,fun e=>by
  rcases h.r2.1.2 with ⟨e',_⟩ | ⟨g',_,_,e',_,hg',_⟩
  . injection e' with e1
    rw [e] at e1
    cases e1
  . injection e' with e1
    rw [e] at e1
    cases e1
    exact (Array.getElem?_eq_some_iff.1 hg').1⟩
 have own:∀ b,b ∈ Hd.own { d with gw:=g,cap:=cap } -> b ∈ d.own \/ b=g:=fun b hb=>by
  simp only [Hd.own,List.mem_cons,List.not_mem_nil,or_false] at hb ⊢
  rcases hb with rfl | rfl | rfl
  . exact .inl (.inl rfl)
  . exact .inr rfl
  exact .inl (.inr (.inr rfl))
 have fresh:∀ b,b < w.heap.size->b ∉ d.own->b ∉ Hd.own { d with gw:=g,cap:=cap }:=fun b hb hn hm=>by
  rcases own b hm with h1 | rfl
  . exact hn h1
  rcases hg with rfl | hg
  . exact hn d.gw_own
  omega
 have e0:=h.ext0.le
 exact
 { toHAt:=h'
   ext0:=But.toExt h.ext0 k h.own0
   h0:=(k.cell hl h.sbn 0).trans h.h0
   h1:=(k.cell hl h.sbn 1).trans h.h1
   h2:=(k.cell hl h.sbn 2).trans h.h2
   fz:=fun j=>(k.frozen hl h.sbn j).trans (h.fz j)
   r1:=h.r1.but_ k (fun b o e=>(h.n1 b o e).2.1)
   r2:=h.r2.but_ k (fun b o e=>(h.n2 b o e).2.1)
   sb0:=h.sb0
   own0:=fun b hb=>by
    rcases own b hb with h1 | rfl
    . exact h.own0 b h1
    rcases hg with rfl | hg
    . exact h.own0 _ d.gw_own
    omega
   sbn:=fresh _ hl h.sbn
   n1:=fun b o e=>⟨(h.n1 b o e).1,fresh _ ((hlt b o).1 e) (h.n1 b o e).2.1,(h.n1 b o e).2.2⟩
   n2:=fun b o e=>⟨(h.n2 b o e).1,fresh _ ((hlt b o).2 e) (h.n2 b o e).2.1,(h.n2 b o e).2.2⟩
   n12:=h.n12
   spn:=h.spn
   opn:=h.opn }
end ScAt
open Go.RowKit
theorem name_any {s:Hp.Sc} {a:Int} (h:ScAt w0 w sb d s p1 k1 p2 k2) (hl:s.ats.length<=1000000) (h1 : -9223372036854775808<=a) (h2:a<=9223372036854775807) :
    Calls Tryz.prog 144 #[.pointer (some ⟨sb,0,none⟩),.int .i64 a] w fun e w'=>e = .returned (.int .i64 (Hp.nameOf s.ats a))/\Ext w w':=by
  have c2:=h.h2;have z1:=h.lt1;have H:=hZ h;have le:=h.r2.at_.le;have cap:=h.r2.at_.cap;clear h;obtain ⟨n,hn⟩:∃ n,s.ats.length=n:=⟨_,rfl⟩
  rw [hn] at c2 hl le
  by_cases hin:0<=a/\a < n
  . obtain ⟨k,rfl⟩:∃ k:Nat,a=k:=⟨a.toNat,by omega⟩
    obtain ⟨x,hx⟩:=rd_get (l:=s.ats) (j:=k) (by rw [hn];omega);have e:Hp.nameOf s.ats k=x:=by
     unfold Hp.nameOf;rw [if_pos (by omega)];unfold Hp.rd at hx;simp [hx]
    have hw:Hp.within 0 ((n:Int)-1) k=true:=by
     simp only [Hp.within,Bool.and_eq_true,decide_eq_true_eq];omega
    obtain ⟨b,o,hp,hb,hc⟩:=H.out.r2.at_.cells (by rw [hn];omega);have g:=hc k x hx;have hkn:k < n:=by omega
    rw [e];clear hc hx e;subst hp;have wi:Calls Tryz.prog 105 #[.int .i64 0,.int .i64 ((n:Int)-1),.int .i64 k] w fun e w'=>e = .returned (.bool true)/\Ext w w':=hw ▸ within_any 0 ((n:Int)-1) k w
    clear hw H hn;go_enter Tryz.func144,Tryz.ntmps144
    go_wp2_with (go_at_call 105;refine wi.mono ?_;rintro e w1 ⟨rfl,hb1⟩;have c2':=(hb1.cell z1 2).trans c2;have g':=(hb1.cell hb (o+k)).trans g)
    go_returns;exact ⟨rfl,hb1⟩
  have e:Hp.nameOf s.ats a=0:=by
   unfold Hp.nameOf
   split
   . rw [List.getD_eq_getElem?_getD,List.getElem?_eq_none (by omega)];rfl
   rfl
  have hw:Hp.within 0 ((n:Int)-1) a=false:=by
   rw [Bool.eq_false_iff];intro hw;simp only [Hp.within,Bool.and_eq_true,decide_eq_true_eq] at hw;omega
  rw [e];have wi:Calls Tryz.prog 105 #[.int .i64 0,.int .i64 ((n:Int)-1),.int .i64 a] w fun e w'=>e = .returned (.bool false)/\Ext w w':=hw ▸ within_any 0 ((n:Int)-1) a w
  clear hw H hn e;go_enter Tryz.func144,Tryz.ntmps144
  go_wp2_with (go_at_call 105;refine wi.mono ?_;rintro e w1 ⟨rfl,hb1⟩)
  go_returns;exact ⟨rfl,hb1⟩
theorem sContains_any (h:SliceAt w p c l) :
    Calls Tryz.prog 175 #[.slice p l.length c,.int .i64 x] w fun e w'=>e = .returned (.bool (l.contains x))/\Ext w w':=by
  have e:l.contains x=decide (Hp.index l x ≥ 0):=by
   unfold Hp.index
   cases hf:l.findIdx? (· == x) with
   | none=>
    simp only;rw [List.findIdx?_eq_none_iff] at hf;have:¬ x ∈ l:=fun hm=>by have:=hf x hm;simp at this
    simp [this]
   | some i=>
    simp only;have hi:=List.findIdx?_eq_some_iff_getElem.1 hf;obtain ⟨h1,h2,_⟩:=hi;have:x ∈ l:=by
     have h3:l[i]=x:=by simpa using h2
     rw [<- h3];exact List.getElem_mem h1
    simp [this]
  rw [e];obtain ⟨b,hb⟩:∃ b,decide (Hp.index l x ≥ 0)=b:=⟨_,rfl⟩
  have HB:decide ((0:Int)<=Hp.index l x)=b:=hb;rw [hb];clear e hb;have H:=hZ h;clear h;generalize hix:Hp.index l x=ix at HB;have HI:=hZ hix;clear hix;go_enter Tryz.func175,Tryz.ntmps175
  go_wp2_with (go_at_call 169;refine (sIndex_any H.out).mono ?_;rintro e w1 ⟨rfl,hb1⟩;rw [HI.out])
  go_returns;exact ⟨rfl,hb1⟩
theorem nameOf_wf {L:List Int} (h:∀ x ∈ L,-9223372036854775808<=x/\x<=9223372036854775807) (a:Int) : -9223372036854775808<=Hp.nameOf L a/\Hp.nameOf L a<=9223372036854775807:=by
 unfold Hp.nameOf
 split
 . rw [List.getD_eq_getElem?_getD]
   cases e:L[a.toNat]? with
   | none=>simp
   | some x=>simpa using h x (List.mem_of_getElem? e)
 omega
def NamesPost (w:World) (ks:List Int) (e:Ending) (w':World):Prop:=∃ q c,e = .returned (.tuple #[.slice q ks.length c,.bool (!ks.contains 0)])/\Row w' w.heap.size q c ks/\Ext w w'
theorem Ext.grown {row:Option Nat} (h:Ext w0 w) (k:w.grownBy w' row) (hr:∀ r,row=some r->w0.heap.size<=r):Ext w0 w':=
 ⟨k.os.trans h.os,k.tape.trans h.tape,k.output.trans h.output,Nat.le_trans h.le k.size,fun i hi=>(k.block i (Nat.lt_of_lt_of_le hi h.le) (fun e=>by have:=hr i e.symm;omega)).trans (h.block i hi)⟩
set_option maxRecDepth 100000 in
set_option maxHeartbeats 4000000 in
theorem names_any {s:Hp.Sc} (h:ScAt w0 w sb d s p1 k1 p2 k2) (hl:s.ats.length<=1000000) (hs:SliceAt w p c l) (hll:l.length<=1000) :
    Calls Tryz.prog 143 #[.pointer (some ⟨sb,0,none⟩),.slice p l.length c] w (NamesPost w (l.map (Hp.nameOf s.ats))):=by
  have H:=hZ h;have HS:=hZ hs;have cap:=hs.cap;have le:=hs.le;clear h hs;go_enter Tryz.func143,Tryz.ntmps143
  go_wp2_with fail
  go_loopg [4,10] l.length (fun g s4 i wr=>∃ (j:Nat) (q:Option Addr) (c':Nat) (acc:List Int),j<=l.length/\l.length-j<=g/\i = .int .i64 j/\s4 = .slice q acc.length c'/\Hid (acc=(l.take j).map (Hp.nameOf s.ats))/\Hid (Row wr w.heap.size q c' acc)/\Hid (Ext w wr))
  case atStart=>exact ⟨0,none,0,[],Nat.zero_le _,by omega,rfl,rfl,hZ rfl,hZ (Row.nil _ _),hZ (Ext.refl _)⟩
  case round=>
   obtain ⟨j,q,c',acc,hj,hg,rfl,rfl,HA,R,E⟩:=hrel;have hal:acc.length<=1000:=by
    rw [HA.out,List.length_map];have:=List.length_take_le j l;omega
   have zw:=E.out.le
   by_cases hlt:j < l.length
   . obtain ⟨x,hx⟩:=rd_get (l:=l) (j:=j) hlt;obtain ⟨b,o,rfl,hb,hc⟩:=(HS.out.ext E.out).cells (by omega);have gx:=hc j x hx;have bx:=HS.out.wf x (List.mem_of_getElem? hx);have HX:=hZ hx;have ny:=nameOf_wf H.out.r2.2 x;have tk:decide ((j:Int) < (l.length:Int))=true:=by simpa using (by omega:(j:Int) < (l.length:Int))
     have nm:=name_any (H.out.ext E.out) hl bx.1 bx.2;obtain ⟨y,hy⟩:∃ y,Hp.nameOf s.ats x=y:=⟨_,rfl⟩
     rw [hy] at nm ny;have HY:=hZ hy;clear hx hc hy
     go_wp2_with (first
      | (go_at_call 144;refine nm.mono ?_;rintro e w1 ⟨rfl,hb1⟩;have RA:=hZ ((R.out.ext hb1).ext (Ext.alloc (Ext.refl _) (.cells #[.int .i64 y] 3)));have zl:=hb1.le)
      | (at_builtin;refine wpList_append_int rfl _ _ rfl (y:=y) rfl rfl RA.out (by go_simp) (by omega) (by omega) (by omega) (by simp;omega) ?_;intro g8 c8 x8 hR8 hG8))
     obtain ⟨row,hgr,hrow⟩:=id hG8
     go_roundg (l.length-(j+1))
     case measure=>omega
     case rel=>
      refine ⟨j+1,_,c8,acc ++ [y],by omega,Nat.le_refl _,by go_num,by simp,hZ ?_,hZ hR8,hZ (((E.out.trans hb1).alloc _).grown hgr hrow)⟩;rw [take_snocI HX.out,List.map_append,<- HA.out,List.map_singleton,HY.out]
   have:j=l.length:=by omega
   subst this;have ha:=HA.out;rw [List.take_length] at ha;have HA2:=hZ ha;clear ha;have RX:=R.out.at_;have sc:=sContains_any (x:=0) RX;obtain ⟨bb,hbb⟩:∃ bb,acc.contains 0=bb:=⟨_,rfl⟩
   rw [hbb] at sc;have HBB:=hZ hbb;clear hbb RX
   go_wp2_with (go_at_call 175;refine sc.mono ?_;rintro e w1 ⟨rfl,hb1⟩)
   go_returns;rw [<- HA2.out];exact ⟨q,c',by rw [HBB.out];rfl,R.out.ext hb1,E.out.trans hb1⟩
open Go.RowKit Go.Maps
theorem Row.set {l':List Int} {v:Int} (h:Row w base p c l) (hp:p=some ⟨b,0,none⟩) (hw:Hp.wr l j v=some l') (h1 : -9223372036854775808<=v) (h2:v<=9223372036854775807) :
    Row (w.setCell ⟨b,j,none⟩ (.int .i64 v)) base p c l':=by
  have hl:=(HAt.wr_len hw).1;have hj:=(HAt.wr_len hw).2;unfold Hp.wr at hw;rw [if_pos hj] at hw
  cases hw
  refine ⟨⟨by simp [ints], ?_⟩,fun x hx=>?_⟩
  . rcases h.1.2 with ⟨e,_⟩ | ⟨g,cap,cur,e,hb,hg,r1,r2,r3,r4⟩
    . injection e with e1
      rw [hp] at e1
      cases e1
    injection e with e1 e2 e3
    rw [hp] at e1
    cases e1
    subst e3;refine .inr ⟨b,c,cur.setIfInBounds j (.int .i64 v),by rw [hp,hl],hb, ?_,by rw [hl];exact r1,r2,by simpa using r3, ?_⟩
    . rw [setCell_eq_setRow w b j cur _ _ _ hg,setRow_heap w b _ _ _ _ hg]
    rw [hl];simp only [Array.toList_setIfInBounds,ints,List.map_set,List.take_set];rw [r4];rfl
  rcases List.mem_or_eq_of_mem_set hx with hx | rfl
  . exact h.2 x hx
  exact ⟨h1,h2⟩
theorem Row.ptr (h:Row w base p c l) (h0:0 < l.length):∃ b,p=some ⟨b,0,none⟩/\b < w.heap.size:=by
 rcases h.1.2 with ⟨e,hz⟩ | ⟨g,cap,cur,e,hb,hg,_⟩
 . omega
 injection e with e1
 exact ⟨g,e1,(Array.getElem?_eq_some_iff.1 hg).1⟩
theorem ScAt.setAt {s:Hp.Sc} {v:Int} {l':List Int} (h:ScAt w0 w sb d s p1 k1 p2 k2) (hp:p2=some ⟨b,0,none⟩) (hw:Hp.wr s.ats j v=some l') (h1 : -9223372036854775808<=v) (h2:v<=9223372036854775807) :
    ScAt w0 (w.setCell ⟨b,j,none⟩ (.int .i64 v)) sb d { s with ats:=l' } p1 k1 p2 k2:=by
  have n:=h.n2 b 0 hp;have k:But [b] w (w.setCell ⟨b,j,none⟩ (.int .i64 v)):=(But.refl _ _).setCell (.inl (by simp)) _;have o:∀ x ∈ d.own,x ∉ [b]:=fun x hx hm=>by
   have:x=b:=by simpa using hm
   subst this;exact n.2.1 hx
  have hl:=(HAt.wr_len hw).1;have sbn:sb ∉ [b]:=by simp;exact fun e=>n.2.2 e.symm
  exact
  { toHAt:=h.toHAt.but k (o _ d.hb_own) (o _ d.gw_own) (o _ d.gm_own) (fun b' o' e hm=>by
      have:b'=b:=by simpa using hm
      subst this;exact (h.spn b' o' e).2.2 0 hp) (fun b' o' e hm=>by
      have:b'=b:=by simpa using hm
      subst this;exact (h.opn b' o' e).2.2 0 hp)
    ext0:=But.toExt h.ext0 k (fun x hx=>by
     have:x=b:=by simpa using hx
     subst this;exact n.1)
    h0:=(k.cell h.lt1 sbn 0).trans h.h0
    h1:=(k.cell h.lt1 sbn 1).trans h.h1
    h2:=by rw [k.cell h.lt1 sbn 2,h.h2,hl]
    fz:=fun j=>(k.frozen h.lt1 sbn j).trans (h.fz j)
    r1:=h.r1.but_ k (fun b' o' e hm=>by
     have:b'=b:=by simpa using hm
     subst this;exact h.n12 b' o' b' 0 e hp rfl)
    r2:=h.r2.set hp hw h1 h2
    sb0:=h.sb0
    own0:=h.own0
    sbn:=h.sbn
    n1:=h.n1
    n2:=h.n2
    n12:=h.n12
    spn:=h.spn
    opn:=h.opn }
theorem ScAt.cut {W:World} {s:Hp.Sc} {P:Program} {cd:Code} {Q:Exit->Act->World->Prop} {a:Act} (h:ScAt w0 W sb d s p1 k1 p2 k2) (k:∀ w',ScAt w0 w' sb d s p1 k1 p2 k2->cd.wp P Q a w'):cd.wp P Q a W:=k W h
def mapTo (f:Int->Int) (l:List Int) (j:Nat):List Int:=(l.take j).map f ++ l.drop j
theorem mapTo_len (f:Int->Int) (l:List Int) (j:Nat):(mapTo f l j).length=l.length:=by simp [mapTo];omega
theorem mapTo_rd {f:Int->Int} (hj:j < l.length):Hp.rd (mapTo f l j) j=Hp.rd l j:=by
 unfold Hp.rd mapTo
 rw [List.getElem?_append_right (by simp;omega)]
 simp
 congr 1
 omega
theorem mapTo_step {f:Int->Int} (hx:Hp.rd l j=some x):Hp.wr (mapTo f l j) j (f x)=some (mapTo f l (j+1)):=by
 have hj:=rd_lt hx
 unfold Hp.wr
 rw [if_pos (by rw [mapTo_len];exact hj)]
 congr 1
 apply List.ext_getElem?
 intro i
 rw [List.getElem?_set]
 unfold mapTo
 unfold Hp.rd at hx
 by_cases h:j=i
 . subst h;rw [if_pos rfl,if_pos (by simp;omega)];rw [List.getElem?_append_left (by simp;omega),List.getElem?_map,List.getElem?_take,if_pos (by omega),hx];rfl
 rw [if_neg h]
 by_cases h2:i < j
 . rw [List.getElem?_append_left (by simp;omega),List.getElem?_append_left (by simp;omega),List.getElem?_map,List.getElem?_map,List.getElem?_take,List.getElem?_take,if_pos h2,if_pos (by omega)]
 rw [List.getElem?_append_right (by simp;omega),List.getElem?_append_right (by simp;omega),List.getElem?_drop,List.getElem?_drop]
 congr 1
 simp
 omega
theorem mapTo_same {f:Int->Int} (hx:Hp.rd l j=some x) (e:f x=x):mapTo f l (j+1)=mapTo f l j:=by
 have h:=mapTo_step (f:=f) hx
 rw [e] at h
 have hj:=rd_lt hx
 unfold Hp.wr at h
 rw [if_pos (by rw [mapTo_len];exact hj)] at h
 have h:=Option.some.inj h
 rw [<- h]
 have h3:(mapTo f l j)[j]? = some x:=by
  have:=mapTo_rd (f:=f) hj;unfold Hp.rd at this;rw [this];exact hx
 obtain ⟨h4,h5⟩:=List.getElem?_eq_some_iff.1 h3
 rw [<- h5,List.set_getElem_self]
theorem mapTo_all (f:Int->Int) (l:List Int):mapTo f l l.length=l.map f:=by simp [mapTo]
theorem mapTo_zero (f:Int->Int) (l:List Int):mapTo f l 0=l:=by simp [mapTo]
set_option maxRecDepth 100000 in
set_option maxHeartbeats 4000000 in
theorem forget_any {s:Hp.Sc} (h:ScAt w0 w sb d s p1 k1 p2 k2) (hl:s.ats.length<=1000000) :
    Calls Tryz.prog 145 #[.pointer (some ⟨sb,0,none⟩)] w fun e w'=>e = .returned (.tuple #[])/\ScAt w0 w' sb d s.forget p1 k1 p2 k2:=by
  have c2:=h.h2;have H:=hZ (show ScAt w0 w sb d { s with ats:=mapTo (fun a=>if s.S.has a then a else 0) s.ats 0 } p1 k1 p2 k2 by rw [mapTo_zero];exact h);have R2:=hZ h.r2;have le:=h.r2.at_.le;have cap:=h.r2.at_.cap;clear h;obtain ⟨n,hn⟩:∃ n,s.ats.length=n:=⟨_,rfl⟩
  have HN:=hZ hn;rw [hn] at c2 hl le;clear hn;go_enter Tryz.func145,Tryz.ntmps145
  go_wp2_with fail
  go_loopg [9] n (fun g i wr=>∃ j:Nat,j<=n/\n-j<=g/\i = .int .i64 j/\Hid (ScAt w0 wr sb d { s with ats:=mapTo (fun a=>if s.S.has a then a else 0) s.ats j } p1 k1 p2 k2))
  case atStart=>exact ⟨0,Nat.zero_le _,by omega,rfl,H⟩
  case round=>
   obtain ⟨j,hj,hg,rfl,N⟩:=hrel;clear H
   by_cases hlt:j < n
   . obtain ⟨x,hx⟩:=rd_get (l:=s.ats) (j:=j) (by rw [HN.out];exact hlt);have hr:Hp.rd (mapTo (fun a=>if s.S.has a then a else 0) s.ats j) j=some x:=(mapTo_rd (by rw [HN.out];exact hlt)).trans hx;obtain ⟨b,hp,hb⟩:=N.out.r2.ptr (by simp only [mapTo_len];rw [HN.out];omega);obtain ⟨b',o',hp',hb',hc⟩:=N.out.r2.at_.cells (by simp only [mapTo_len];rw [HN.out];omega);rw [hp] at hp'
     cases hp'
     have gx:=hc j x hr;rw [Nat.zero_add] at gx;have bx:=R2.out.2 x (List.mem_of_getElem? hx);have h0:=N.out.h0;have h2:=N.out.h2;simp only [mapTo_len] at h2;rw [HN.out] at h2;have c3:=N.out.c3;have HX:=hZ hx;have fb:wr.frozen? ⟨b,j,none⟩=false:=by
      rcases N.out.r2.1.2 with ⟨e,_⟩ | ⟨g,cap',cur,e,_,hgb,_⟩
      . injection e with e1
        rw [hp] at e1
        cases e1
      injection e with e1
      rw [hp] at e1
      cases e1
      simp [World.frozen?,hgb]
     have tk:decide ((j:Int) < (n:Int))=true:=by simpa using (by omega:(j:Int) < (n:Int))
     obtain ⟨bh,hbh⟩:∃ bh,s.S.has x=bh:=⟨_,rfl⟩
     have hlk:=run_look N.out.toHAt hbh bx.1 bx.2;have HB:=hZ hbh;clear hx hr hc hbh;subst hp
     cases bh with
     | true=>
      go_wp2_with fail
      go_roundg (n-(j+1))
      case measure=>omega
      case rel=>exact ⟨j+1,by omega,Nat.le_refl _,by go_num,hZ (by rw [mapTo_same HX.out (by simp [HB.out])];exact N.out)⟩
     | false=>
      have N1:=hZ (N.out.setAt rfl (mapTo_step HX.out) (by simp only [HB.out];simp) (by simp only [HB.out];simp));simp only [HB.out,Bool.false_eq_true,if_false] at N1
      go_wp2_with fail
      go_roundg (n-(j+1))
      case measure=>omega
      case rel=>exact ⟨j+1,by omega,Nat.le_refl _,by go_num,N1⟩
   have:j=n:=by omega
   subst this
   go_wp2_with fail
   go_returns;refine ⟨rfl, ?_⟩;have:=N.out;rw [<- HN.out,mapTo_all] at this;exact this
section
variable {P:Program} {ops:Array Oper} {Q:Exit->Act->World->Prop} {md:Region.Mode} {S:World->Prop} {n G:Nat}
theorem wpAnyX_fork {listed:Array Bool} {a:Act} (is:List Nat) (hr:Region.ready md ops listed=is) (h0:is ≠ []) (hn:∀ i ∈ is,i < n)
    (h:∀ i ∈ is,wpOp P ops Q i (fun a' w''=>S w''/\wpAnyX P md ops Q S Eq n G f (listed.setIfInBounds i true) a' w'') a w):wpAnyX P md ops Q S Eq n G (f+1) listed a w:=by
  intro w' e _;subst e;subst hr;exact ⟨h0,fun i hi=>⟨hn i hi,h i hi⟩⟩
theorem wpOp_value {oi:Oper} {v:Value} {K:Act->World->Prop} {a:Act} {w'':World} (hi:ops[i]? = some oi) (hw:Region.wanted oi (yielded ops a.tmps)=true)
    (hrun:(execOp a.eval oi).run P w = .ok (.value v) w'') (hk:K (a.put oi.dst v) w''):wpOp P ops Q i K a w:=by
  unfold wpOp;simp only [hi];rw [if_pos hw];refine .inl ?_;unfold Oper.wp;rw [hrun];exact hk
end
theorem row_own (hrow:Row w base p c l):∀ r,(Value.slice p l.length c).ownBlock=some r->p=some ⟨r,0,none⟩:=fun r hr=>by
 cases p with
 | none=>simp [Value.ownBlock] at hr
 | some q=>
  have hr':q.block=r:=by simpa [Value.ownBlock] using hr
  subst hr'
  rcases hrow.1.2 with ⟨e,_⟩ | ⟨g',cap',cur,e,h1,_⟩
  . injection e with e1
    cases e1
  injection e with e1
  rw [Option.some.inj e1]
theorem wpOp_append {ops:Array Oper} {Q:Exit->Act->World->Prop} {o:Oper} {K:Act->World->Prop} {a:Act} {w:World} (s x:Operand) (hi:ops[i]? = some o)
    (ho:o.op = .call { callee:=.builtin .append,args:=#[s,x],argTypes:=#[22,22] }) (hw:Region.wanted o (yielded ops a.tmps)=true) {c b:Nat} {p:Option Addr} {l:List Int} {y:Int} (hs:a.eval s = .slice p l.length c) (hx:a.eval x = .slice (some ⟨b,0,none⟩) 1 1)
    (hrow:Row w 0 p c l) (hy:w.cell? ⟨b,0,none⟩=some (.int .i64 y)) (hy1 : -9223372036854775808<=y) (hy2:y<=9223372036854775807) (hlen:l.length < 10000000)
    (h:∀ g cap w' row,Row w' 0 (some ⟨g,0,none⟩) cap (l ++ [y])->w.grownBy w' row->(∀ r,row=some r->p=some ⟨r,0,none⟩)->(p=some ⟨g,0,none⟩ \/ g=w.heap.size)->g < w'.heap.size->K (a.put o.dst (.slice (some ⟨g,0,none⟩) (l.length+1) cap)) w'):wpOp Tryz.prog ops Q i K a w:=by
  unfold wpOp;simp only [hi];rw [if_pos hw];refine .inl ?_;obtain ⟨i0,hi0,hz0,hz1,hz2⟩:=info_parts (show (Tryz.prog.info? 3).map (fun i=>(i.zero,i.size,i.bytes))=some (some (.int .i64 0),1,8) from by kernel_rfl);refine wp_append_lies w s x 22 ho 0 3 i0 (.int .i64 0) 1 8 Tryz.underlying22 hi0 hz0 hz1 hz2 rfl (by decide) _ _ _ hs hrow.1 ⟨b,0,none⟩ 1 1 [.int .i64 y] hx (by simp) (fun j u hj=>?_) (by simp [Value.oneCell']) (by omega) (by unfold maxLen;omega) (by omega) (Nat.zero_le _) _ rfl ?_
  . cases j with
    | zero=>
     simp at hj;subst hj;rw [Addr.add_lit];exact hy
    | succ j=>simp at hj
  intro g cap w' hown hgrow hor hlt;have own:=row_own hrow;refine h g cap w' _ ⟨by simpa [ints] using hown,fun z hz=>?_⟩ hgrow own (hor.imp (own g) id) hlt
  rcases List.mem_append.1 hz with hz | hz
  . exact hrow.2 z hz
  have:z=y:=by simpa using hz
  subst this;exact ⟨hy1,hy2⟩
end Go.Proofs.YtdokmmhjmclmnaaGreat
