/-
  Part 8 of a proof: HFn23 HFn24 HFn28.
-/
import Derived.Deep.OwnRows
import Derived.Test.YtdokmmhjmclmnaaGreatMV02
import Derived.Test.YtdokmmhjmclmnaaGreatMV03
import Derived.Test.YtdokmmhjmclmnaaGreatMV06
import Derived.Test.YtdokmmhjmclmnaaGreatMV07
set_option linter.unusedSimpArgs false
set_option linter.unusedVariables false
set_option linter.unusedSectionVars false
set_option linter.unnecessarySimpa false
namespace Go.Proofs.YtdokmmhjmclmnaaGreat
variable {W' w w' w0 wb:World} {B a b base c cap ce cn f g gb i j k lb m n oc s sc:Nat} {choice t x:Int} {G W fs l o xs z:List Int} {S S':Hp.Hs} {A N T:List Nat} {M:List (Nat × Int)} {op p pe pn q sp:Option Addr} {d:Hd}
namespace Hp
def insI (x:Int):List Int->List Int
 | []=>[x]
 | y :: r=>if x<=y then x :: y :: r else y :: insI x r
def sortI:List Int->List Int
 | []=>[]
 | x :: r=>insI x (sortI r)
def upto (n:Nat):List Int:=(List.range n).map fun x:Nat=>(x:Int)
def frameErr (sizes order:List Int):Int:=
 if sizes.length > 6 then 5 else
 if sizes.all (fun n=>decide (1<=n) && decide (n<=12))=false then 3 else
 if sizes.foldl (· * ·) 1 > 2000 then 5 else
 if sortI order=upto sizes.length then 0 else 4
def newErr (sizes order:List Int) (words:Int):Int:=
 if frameErr sizes order ≠ 0 then frameErr sizes order else if within 32 40000 words then 0 else 3
end Hp
open Go.RowKit Go.Maps Go.Sort Go.Shelf
theorem perm_insI (x:Int):∀ l:List Int,(Hp.insI x l).Perm (x :: l)
 | []=>List.Perm.refl _
 | y :: r=>by
  unfold Hp.insI
  split
  . exact List.Perm.refl _
  exact ((perm_insI x r).cons y).trans (List.Perm.swap x y r)
theorem perm_sortI:∀ l:List Int,(Hp.sortI l).Perm l
 | []=>List.Perm.refl _
 | x :: r=>(perm_insI x _).trans ((perm_sortI r).cons x)
theorem sorted_insI (x:Int):∀ {l:List Int},l.Pairwise (· <= ·)->(Hp.insI x l).Pairwise (· <= ·)
 | [],_=>by simp [Hp.insI]
 | y :: r,h=>by
  obtain ⟨h1,h2⟩:=List.pairwise_cons.1 h;unfold Hp.insI
  split
  . rename_i hxy;refine List.pairwise_cons.2 ⟨fun z hz=>?_,h⟩
    rcases List.mem_cons.1 hz with rfl | hz
    . exact hxy
    exact Int.le_trans hxy (h1 z hz)
  rename_i hxy;refine List.pairwise_cons.2 ⟨fun z hz=>?_,sorted_insI x h2⟩
  rcases List.mem_cons.1 ((perm_insI x r).mem_iff.1 hz) with rfl | hz
  . omega
  exact h1 z hz
theorem sorted_sortI:∀ l:List Int,(Hp.sortI l).Pairwise (· <= ·)
 | []=>List.Pairwise.nil
 | x :: r=>sorted_insI x (sorted_sortI r)
theorem mergeSort_eq (l:List Int):l.mergeSort (fun x y=>decide (x<=y))=Hp.sortI l:=by
 refine List.Perm.eq_of_pairwise (le:=fun a b:Int=>a<=b) (fun a b _ _ h1 h2=>by omega) ?_ (sorted_sortI l) ((List.mergeSort_perm _ _).trans (perm_sortI l).symm)
 have:=List.pairwise_mergeSort (le:=fun x y:Int=>decide (x<=y)) (fun a b c h1 h2=>by simp at *;omega) (fun a b=>by simp;omega) l
 exact this.imp fun h=>by simpa using h
theorem sortI_length (l:List Int):(Hp.sortI l).length=l.length:=(perm_sortI l).length_eq
def SortPost (w:World) (base:Nat) (p:Option Addr) (c:Nat) (l:List Int) (e:Ending) (w':World):Prop:=e = .returned (.tuple #[])/\Row w' base p c (Hp.sortI l) /\ ∃ row,w.grownBy w' row /\ ∀ r,row=some r->base<=r
theorem sSort_any (h:Row w base p c l) (hlen:l.length<=1000000):Calls Tryz.prog 163 #[.slice p l.length c] w (SortPost w base p c l):=by
 rcases h.1.2 with ⟨e,hz⟩ | ⟨g,cap,cur,e,h1,hg,r1,r2,r3,r4⟩
 . injection e with e1 e2 e3
   have:l=[]:=List.eq_nil_of_length_eq_zero hz;subst this;subst e1;refine (AnyM.slices_Sort_int_none Tryz.sortA none c w).mono ?_;rintro e w' ⟨rfl,rfl⟩;exact ⟨rfl,by simpa [Hp.sortI] using h,none,World.grownBy.refl _ _,fun r hr=>by cases hr⟩
 injection e with e1 e2 e3
 subst e1 e3
 have hH:Holds encZ w g 0 l.toArray:=holds_of_block_i hg (by simpa [ints,encZ] using r4)
 have hgl:g < w.heap.size:=(Array.getElem?_eq_some_iff.1 hg).1
 refine (AnyM.slices_Sort_int Tryz.sortA g 0 c l w hH hgl (by omega)).mono ?_
 rintro e w' ⟨rfl,n,os,rfl⟩
 rw [mergeSort_eq]
 refine ⟨rfl,⟨?_,fun x hx=>h.2 x ((perm_sortI l).mem_iff.1 hx)⟩,some g,grownBy_sorted_i _,fun r hr=>by cases hr;exact h1⟩
 have:=ownsRow_sorted_i (n:=n) (os:=os) (sortI_length l) h1 hg r1 r2 r3
 rw [sortI_length]
 simpa [ints,encZ] using this
theorem nWithin1_any {b1 b2:Nat} {least most n:Int} (h1:w.cell? ⟨b1,0,none⟩=some (.int .i64 least)) (h2:w.cell? ⟨b2,0,none⟩=some (.int .i64 most)) :
    Calls Tryz.prog 185 #[.int .i64 n,.pointer (some ⟨b1,0,none⟩),.pointer (some ⟨b2,0,none⟩)] w fun e w'=>e = .returned (.bool (!(decide (least<=n) && decide (n<=most))))/\Ext w w':=by
  by_cases c1:n < least
  . have e:(!(decide (least<=n) && decide (n<=most)))=true:=by simp;omega
    rw [e];clear e;go_enter Tryz.func185,Tryz.ntmps185;go_wp2
    all_goals go_returns
    exact ⟨rfl,exx⟩
  by_cases c2:n > most
  . have e:(!(decide (least<=n) && decide (n<=most)))=true:=by simp;omega
    rw [e];clear e;have c3:decide (n < least)=false:=by simpa using c1
    go_enter Tryz.func185,Tryz.ntmps185;go_wp2
    all_goals go_returns
    exact ⟨rfl,exx⟩
  have e:(!(decide (least<=n) && decide (n<=most)))=false:=by simp;omega
  rw [e];clear e;have c3:decide (n < least)=false:=by simpa using c1
  have c4:decide (n > most)=false:=by simpa using c2
  go_enter Tryz.func185,Tryz.ntmps185;go_wp2
  all_goals go_returns
  exact ⟨rfl,exx⟩
theorem nWithin_any {least most:Int} {b:Bool} (h:SliceAt w p c l) (hb:l.all (fun n=>decide (least<=n) && decide (n<=most))=b) :
    Calls Tryz.prog 165 #[.int .i64 least,.int .i64 most,.slice p l.length c] w fun e w'=>e = .returned (.bool b)/\Ext w w':=by
  rw [all_any] at hb;have key:∀ t1 t2,Says ((w.alloc (.cells #[.int .i64 least] t1)).alloc (.cells #[.int .i64 most] t2)) 185 #[] #[.pointer (some ⟨w.heap.size,0,none⟩),.pointer (some ⟨w.heap.size+1,0,none⟩)] l (fun n=>!(decide (least<=n) && decide (n<=most))):=by
   intro t1 t2 j x hx _ W hW;have g1:W.cell? ⟨w.heap.size,0,none⟩=some (.int .i64 least):=by
    rw [hW.cell (by simp;omega) 0];go_simp
   have g2:W.cell? ⟨w.heap.size+1,0,none⟩=some (.int .i64 most):=by
    rw [hW.cell (by simp) 0];go_simp
   have:=nWithin1_any (n:=x) g1 g2
   simpa using this
  have H:=hZ h;have K:=hZ key;generalize hq:(l.any fun x=>!(decide (least<=x) && decide (x<=most)))=b0 at hb;have HQ:=hZ hq;clear h key hq;subst hb;go_enter Tryz.func165,Tryz.ntmps165
  go_wp2_with (go_at_call 167;refine (sContainsFunc_any (enters_of Tryz.func185 (by kernel_rfl) rfl) (H.out.ext (exx)) (K.out _ _) HQ.out).mono ?_;rintro e w1 ⟨rfl,hb1⟩;obtain ⟨hc1,hf1,hs1⟩:=hb1.cells)
  go_returns;exact ⟨rfl,exx⟩
open Go.RowKit Go.Maps
def filled (n j:Nat):List Int:=Hp.upto j ++ List.replicate (n-j) 0
theorem filled_len (h:j<=n):(filled n j).length=n:=by simp [filled,Hp.upto];omega
theorem filled_step (h:j < n):Hp.wr (filled n j) j (j:Int)=some (filled n (j+1)):=by
 unfold Hp.wr
 rw [if_pos (by rw [filled_len (by omega)];exact h)]
 congr 1
 unfold filled
 rw [List.set_append_right _ _ (by simp [Hp.upto])]
 have e1:j-(Hp.upto j).length=0:=by simp [Hp.upto]
 rw [e1,show n-j=(n-(j+1))+1 by omega,List.replicate_succ,List.set_cons_zero]
 unfold Hp.upto
 rw [List.range_succ,List.map_append]
 simp
theorem filled_full (n:Nat):filled n n=Hp.upto n:=by simp [filled]
def NumPost (w:World) (n:Nat) (e:Ending) (w':World):Prop:=∃ g,e = .returned (.slice (some ⟨g,0,none⟩) n n)/\SliceAt w' (some ⟨g,0,none⟩) n (Hp.upto n)/\Ext w w'
theorem made_words (w:World) (n:Nat):WordsAt (w.alloc (.cells (madeCells #[.int .i64 0] n) 3)) w.heap.size (List.replicate n 0):=by
 refine ⟨⟨[], ?_⟩,fun x hx=>by rw [List.eq_of_mem_replicate hx];omega⟩
 rw [heap_new]
 congr 2
 apply Array.ext
 . simp [ints,size_madeCells]
 intro i h1 h2
 have hi:i < n:=by simpa [size_madeCells] using h1
 simp [madeCells,ints,hi,Nat.mod_one]
set_option maxHeartbeats 2000000 in
theorem numbers_any (hn:n<=1000):Calls Tryz.prog 166 #[.int .i64 n] w (NumPost w n):=by
 have hmk:=run_make_row' (P:=Tryz.prog) 22 3 (.int .i64 0) 8 Tryz.underlying22 (show (Tryz.prog.info? 3).map (fun i=>(i.zero,i.size,i.bytes))=some (some (.int .i64 0),1,8) from by kernel_rfl) rfl .i64 .i64 n (by omega) (by omega)
 go_enter Tryz.func166,Tryz.ntmps166
 go_wp2_with fail
 clear hmk
 have W0:=hZ (show WordsAt (w.alloc (.cells (madeCells #[.int .i64 0] n) 3)) w.heap.size (filled n 0) by simpa [filled,Hp.upto] using made_words w n)
 have E0:Ext w (w.alloc (.cells (madeCells #[.int .i64 0] n) 3)):=exx
 generalize (w.alloc (.cells (madeCells #[.int .i64 0] n) 3))=w1 at W0 E0 ⊢
 have E0':=hZ E0
 clear E0
 go_loopg [8] n (fun g i wr=>∃ j:Nat,j<=n/\n-j<=g/\i = .int .i64 j/\Hid (WordsAt wr w.heap.size (filled n j))/\Hid (Ext w wr))
 case atStart=>exact ⟨0,Nat.zero_le _,by omega,rfl,W0,E0'⟩
 case round=>
  obtain ⟨j,hj,hg,rfl,W,E⟩:=hrel;clear W0 E0'
  by_cases hlt:j < n
  . obtain ⟨y,hy⟩:=rd_get (l:=filled n j) (j:=j) (by rw [filled_len hj];exact hlt);have g1:=W.out.get hy;have f1:=W.out.froz j;have W1:=hZ (W.out.set (filled_step hlt) (by omega) (by omega));have E1:=hZ (Ext.setCell E.out (p:=⟨w.heap.size,j,none⟩) (Nat.le_refl _) (.int .i64 j));clear hy
    go_wp2_with fail
    go_roundg (n-(j+1))
    case measure=>omega
    case rel=>exact ⟨j+1,by omega,Nat.le_refl _,by go_num,W1,E1⟩
  have:j=n:=by omega
  subst this
  go_wp2_with fail
  go_returns;have h1:=W.out;rw [filled_full] at h1;have hl:(Hp.upto j).length=j:=by simp [Hp.upto]
  exact ⟨w.heap.size,rfl,⟨by rw [hl];exact Nat.le_refl _,by omega,h1.wf,fun _=>⟨w.heap.size,0,rfl,h1.lt,fun i x hx=>by rw [Nat.zero_add];exact h1.get hx⟩⟩,E.out⟩
theorem upto_length (n:Nat):(Hp.upto n).length=n:=by simp [Hp.upto]
theorem ext_grow {row:Option Nat} (h:Ext w0 w) (k:w.grownBy w' row) (hr:∀ g,row=some g->w0.heap.size<=g):Ext w0 w':=
 But.toExt (Ext.refl w0) (but_grow (But.ofExt (l:=[]) h) k hr) (by simp)
def prodI (l:List Int):Int:=l.foldl (· * ·) 1
theorem prodI_snoc (l:List Int) (x:Int):prodI (l ++ [x])=prodI l * x:=by simp [prodI,List.foldl_append]
theorem take_snocI (h:Hp.rd l j=some x):l.take (j+1)=l.take j ++ [x]:=by
 obtain ⟨hl,rfl⟩:=List.getElem?_eq_some_iff.1 h
 exact List.take_succ_eq_append_getElem hl
theorem pow12 (h:j<=6):(12:Int) ^ j<=2985984:=by
 have hh:j=0 \/ j=1 \/ j=2 \/ j=3 \/ j=4 \/ j=5 \/ j=6:=by omega
 rcases hh with rfl | rfl | rfl | rfl | rfl | rfl | rfl <;> decide
set_option maxRecDepth 100000 in
set_option maxHeartbeats 4000000 in
theorem frame_any {d:Nat} {sizes order:List Int} (hs:SliceAt w p c sizes) (ho:SliceAt w q d order) (hq:0 < order.length \/ q=none) (hol:order.length<=1000000) :
    Calls Tryz.prog 121 #[.slice p sizes.length c,.slice q order.length d] w fun e w'=>e = .returned (.int .i64 (Hp.frameErr sizes order))/\Ext w w':=by
  have HS:=hZ hs;have HO:=hZ ho;have hsc:=hs.le;have hscc:=hs.cap;clear hs ho
  by_cases h6:sizes.length > 6
  . have e:Hp.frameErr sizes order=5:=by unfold Hp.frameErr;rw [if_pos h6]
    rw [e];clear e;go_enter Tryz.func121,Tryz.ntmps121
    go_wp2_with fail
    go_returns;exact ⟨rfl,exx⟩
  cases hall:sizes.all (fun n=>decide (1<=n) && decide (n<=12)) with
  | false=>
   have e:Hp.frameErr sizes order=3:=by unfold Hp.frameErr;rw [if_neg h6,if_pos hall]
   rw [e];have HA:=hZ hall;clear e hall;go_enter Tryz.func121,Tryz.ntmps121
   go_wp2_with (go_at_call 165;refine (nWithin_any HS.out HA.out).mono ?_;rintro e w1 ⟨rfl,hb1⟩;obtain ⟨hc1,hf1,hs1⟩:=hb1.cells)
   go_returns;exact ⟨rfl,exx⟩
  | true=>
   have e:Hp.frameErr sizes order=if prodI sizes > 2000 then 5 else if Hp.sortI order=Hp.upto sizes.length then 0 else 4:=by
    unfold Hp.frameErr prodI;rw [if_neg h6,if_neg (by rw [hall];simp)]
   rw [e];have HA:=hZ hall;obtain ⟨ee,hee⟩:∃ ee,(if prodI sizes > 2000 then 5 else if Hp.sortI order=Hp.upto sizes.length then 0 else 4:Int)=ee:=⟨_,rfl⟩
   rw [hee];have HE:=hZ hee;clear e hall hee;obtain ⟨n,hn⟩:∃ n,sizes.length=n:=⟨_,rfl⟩
   have HN:=hZ hn;rw [hn] at h6 hsc ⊢;clear hn;go_enter Tryz.func121,Tryz.ntmps121
   go_wp2_with (go_at_call 165;refine ((HN.out ▸ nWithin_any HS.out HA.out)).mono ?_;rintro e w1 ⟨rfl,hb1⟩;obtain ⟨hc1,hf1,hs1⟩:=hb1.cells)
   have E1:=hZ hb1;clear hb1 hc1 hf1 hs1
   go_loopg [5,19] n (fun g s i wr=>∃ (j:Nat) (m:Int),j<=n/\n-j<=g/\i = .int .i64 j/\s = .int .i64 m/\0<=m/\Hid (m<=(12:Int) ^ j)/\Hid (m=prodI (sizes.take j))/\Hid (Ext w wr))
   case atStart=>exact ⟨0,1,Nat.zero_le _,by omega,rfl,rfl,by omega,hZ (by simp),hZ rfl,E1⟩
   case round=>
    obtain ⟨j,m,hj,hg,rfl,rfl,hm0,HM,HP,E⟩:=hrel;clear E1
    by_cases hlt:j < n
    . obtain ⟨x,hx⟩:=rd_get (l:=sizes) (j:=j) (by rw [HN.out];exact hlt);have hxb:=List.all_eq_true.1 HA.out x (List.mem_of_getElem? hx);simp only [Bool.and_eq_true,decide_eq_true_eq] at hxb;obtain ⟨b,o,rfl,hb,hcell⟩:=(HS.out.ext E.out).cells (by rw [HN.out];omega);have gx:=hcell j x hx;have HX:=hZ hx;have hmb:=Int.le_trans HM.out (pow12 (by omega:j<=6));have hp1:m * x<=(12:Int) ^ (j+1):=by
       rw [Int.pow_succ];exact Int.mul_le_mul HM.out hxb.2 (by omega) (Int.pow_nonneg (by omega))
      have hp0:0<=m * x:=Int.mul_nonneg hm0 (by omega);have hp2:=Int.le_trans hp1 (pow12 (by omega:j+1<=6));have HP1:=hZ hp1;have HP2:=hZ (show m * x=prodI (sizes.take (j+1)) by rw [take_snocI hx,prodI_snoc,HP.out]);clear hcell hx hp1 hxb HM HP;generalize he:m * x=qv at hp0 hp2 HP1 HP2;have e2:wrap64 (m * x)=qv:=by rw [he];exact IntWalk.wrap64_in _ ⟨by omega,by omega⟩
      clear he
      go_wp2_with fail
      go_roundg (n-(j+1))
      case measure=>omega
      case rel=>exact ⟨j+1,qv,by omega,Nat.le_refl _,by go_num,by rw [e2],hp0,HP1,HP2,E⟩
    have:j=n:=by omega
    subst this;have hp:=HP.out;rw [<- HN.out,List.take_length] at hp;have HPR:=hZ hp;have hm2:=Int.le_trans HM.out (pow12 (by omega));clear hp HM HP
    by_cases h2:m > 2000
    . have hee:=HE.out;rw [<- HPR.out,if_pos h2] at hee;subst hee
      go_wp2_with fail
      go_returns;exact ⟨rfl,E.out⟩
    have hee:=HE.out;rw [<- HPR.out,if_neg h2] at hee;have HE2:=hZ hee;clear hee HE
    go_wp2_with (first
     | (go_at_call 60;refine (sClone_any (HO.out.ext E.out) hq hol).mono ?_;rintro e w2 ⟨p2,c2,rfl,hR2,hE2,_⟩)
     | (go_at_call 163;refine (sSort_any hR2 hol).mono ?_;rintro e w3 ⟨rfl,hR3,hG3⟩)
     | (go_at_call 166;refine (numbers_any (by omega)).mono ?_;rintro e w4 ⟨g4,rfl,hS4,hE4⟩))
    obtain ⟨row,hgr,hrow⟩:=id hG3;have E3:=ext_grow hE2 hgr hrow;have E5:=E.out.trans (E3.trans hE4);have hS5:=(hR3.at_).ext hE4;have hlS:=sortI_length order;have hee:=HE2.out
    by_cases hso:Hp.sortI order=Hp.upto sizes.length
    . rw [if_pos hso] at hee;subst hee;rw [HN.out] at hso;have hEq:=sEqual_is (decide_eq_true hso) hS5 (show SliceAt w4 (some ⟨g4,0,none⟩) j (Hp.upto j) from hS4);rw [hlS,upto_length] at hEq;have HQ:=hZ hEq;clear hEq hso hS5 hS4 hR3 hG3 hgr hrow hR2;refine HQ.out.mono ?_;rintro e w5 ⟨rfl,hE5⟩
      go_wp2_with fail
      go_returns;exact ⟨rfl,E5.trans hE5⟩
    rw [if_neg hso] at hee;subst hee;rw [HN.out] at hso;have hEq:=sEqual_is (decide_eq_false hso) hS5 (show SliceAt w4 (some ⟨g4,0,none⟩) j (Hp.upto j) from hS4);rw [hlS,upto_length] at hEq;have HQ:=hZ hEq;clear hEq hso hS5 hS4 hR3 hG3 hgr hrow hR2;refine HQ.out.mono ?_;rintro e w5 ⟨rfl,hE5⟩
    go_wp2_with fail
    go_returns;exact ⟨rfl,E5.trans hE5⟩
theorem hcheck_any {d:Nat} {words:Int} {sizes order:List Int} (hs:SliceAt w p c sizes) (ho:SliceAt w q d order) (hq:0 < order.length \/ q=none) (hol:order.length<=1000000) :
    Calls Tryz.prog 59 #[.slice p sizes.length c,.slice q order.length d,.int .i64 words] w fun e w'=>e = .returned (.int .i64 (Hp.newErr sizes order words))/\Ext w w':=by
  have HC:=hZ (frame_any hs ho hq hol);clear hs ho
  by_cases h0:Hp.frameErr sizes order=0
  . cases hw:Hp.within 32 40000 words with
    | true=>
     have e:Hp.newErr sizes order words=0:=by simp [Hp.newErr,h0,hw]
     rw [e];have HW:=hZ hw;have HC':=hZ (h0 ▸ HC.out);clear e h0 hw HC;go_enter Tryz.func59,Tryz.ntmps59
     go_wp2_with (first
      | (go_at_call 121;refine (HC'.out).mono ?_;rintro e w1 ⟨rfl,hb1⟩;obtain ⟨hc1,hf1,hs1⟩:=hb1.cells)
      | (go_at_call 105;refine ((HW.out ▸ within_any 32 40000 words _)).mono ?_;rintro e w2 ⟨rfl,hb2⟩;obtain ⟨hc2,hf2,hs2⟩:=hb2.cells))
     go_returns;exact ⟨rfl,exx⟩
    | false=>
     have e:Hp.newErr sizes order words=3:=by simp [Hp.newErr,h0,hw]
     rw [e];have HW:=hZ hw;have HC':=hZ (h0 ▸ HC.out);clear e h0 hw HC;go_enter Tryz.func59,Tryz.ntmps59
     go_wp2_with (first
      | (go_at_call 121;refine (HC'.out).mono ?_;rintro e w1 ⟨rfl,hb1⟩;obtain ⟨hc1,hf1,hs1⟩:=hb1.cells)
      | (go_at_call 105;refine ((HW.out ▸ within_any 32 40000 words _)).mono ?_;rintro e w2 ⟨rfl,hb2⟩;obtain ⟨hc2,hf2,hs2⟩:=hb2.cells))
     go_returns;exact ⟨rfl,exx⟩
  have e:Hp.newErr sizes order words=Hp.frameErr sizes order:=by simp [Hp.newErr,h0]
  rw [e];have t0:(Hp.frameErr sizes order != 0)=true:=by simpa using h0
  clear e h0;generalize Hp.frameErr sizes order=fe at *;go_enter Tryz.func59,Tryz.ntmps59
  go_wp2_with (go_at_call 121;refine (HC.out).mono ?_;rintro e w1 ⟨rfl,hb1⟩;obtain ⟨hc1,hf1,hs1⟩:=hb1.cells)
  go_returns;exact ⟨rfl,exx⟩
theorem WordsAt.copied {V V':List Int} (h:WordsAt w g V) (hs:SliceAt w p c l) (h0:0 < l.length) (hw:Hp.lay V i l=some V') :
    ∃ w',(∀ n c' ty,l.length<=n->(Builtin.copy_ #[22,22] ty #[.slice (some ⟨g,i,none⟩) n c',.slice p l.length c]).run Tryz.prog w = .ok (goInt (l.length:Nat)) w')/\WordsAt w' g V'/\But [g] w w':=by
  obtain ⟨b,o,rfl,hb,hx⟩:=hs.cells h0;obtain ⟨s,hg⟩:=h.row;have hl:=HAt.lay_len hw;have hfit:i+(ints l).length<=(ints V ++ s).toArray.size:=by simp [ints];omega
  have k1:But [g] w (w.setRow g (splice (ints V ++ s) i (ints l)).toArray):=(But.refl _ _).setRow (.inl (by simp)) _;refine ⟨w.setRow g (splice (ints V ++ s) i (ints l)).toArray,fun n c' ty hn=>?_,h.spliced hw hs.wf (fun cur hcur hle=>?_),k1⟩
  . have hm:Nat.min l.length n=l.length:=Nat.min_eq_left hn;have:=run_copy_rowK (P:=Tryz.prog) w 22 22 ty 3 1 g i n c' ⟨b,o,none⟩ l.length c _ 3 (ints l) Tryz.underlying22 (by kernel_rfl) hg (by rw [hm];simp [ints]) (fun j v hj=>by
     rw [Addr.add_lit];obtain ⟨hj1,hj2⟩:=List.getElem?_eq_some_iff.1 hj;have hj3:j < l.length:=by simpa [ints] using hj1
     rw [hx j l[j] (List.getElem?_eq_getElem hj3),<- hj2];simp [ints]) hfit (fun v hv=>by
     obtain ⟨x,_,rfl⟩:=List.mem_map.1 hv;rfl)
    rw [hm] at this;rw [this];simp only [List.toList_toArray,splice,List.append_assoc]
  rw [hg] at hcur;have e:cur=ints V ++ s:=by
   have:=Option.some.inj hcur;injection this with e1
   simpa using e1.symm
  subst e;exact setRow_heap w g _ _ _ _ hg
theorem sub_at (h:HAt w d S) (hl:Hp.sub S.words a k=some l) (c:Nat) (hc:k<=c) (hc2:c<=9223372036854775807):SliceAt w (some ⟨d.gw,a,none⟩) c l/\l.length=k/\a+k<=S.words.length:=by
 unfold Hp.sub at hl
 split at hl
 case isFalse=>cases hl
 rename_i hle
 cases hl
 have hlen:((S.words.drop a).take k).length=k:=by simp;omega
 refine ⟨⟨by omega,hc2,fun x hx=>h.words.wf x (List.mem_of_mem_drop (List.mem_of_mem_take hx)),fun _=>⟨d.gw,a,rfl,h.words.lt,fun j x hx=>?_⟩⟩,hlen,hle⟩
 refine h.words.get ?_
 unfold Hp.rd at hx ⊢
 rw [List.getElem?_take] at hx
 split at hx
 . rw [List.getElem?_drop] at hx;exact hx
 cases hx
structure Mv (w W:World) (d:Hd) (S:Hp.Hs) (g gm:Nat) (V:List Int) (M:List (Nat × Int)):Prop extends HAt W d S where
 ext':Ext w W
 new:WordsAt W g V
 moved:MapIAt Tryz.prog W gm M
 g1:w.heap.size<=g
 g2:w.heap.size<=gm
 g3:g ≠ gm
 o0:∀ b ∈ d.own,b < w.heap.size
 o1:∀ b o,d.sp=some ⟨b,o,none⟩->b < w.heap.size
 o2:∀ b o,d.op=some ⟨b,o,none⟩->b < w.heap.size
namespace Mv
variable {w W W':World} {d:Hd} {S:Hp.Hs} {g gm:Nat} {V V':List Int} {M M':List (Nat × Int)}
theorem ext (h:Mv w W d S g gm V M) (k:Ext W W'):Mv w W' d S g gm V M:=
 { h with toHAt:=h.toHAt.ext k,ext':=h.ext'.trans k,new:=h.new.ext k,moved:=h.moved.ext k }
theorem far (h:Mv w W d S g gm V M) {x:Nat} (k:But [x] W W') (hx:w.heap.size<=x):HAt W' d S:=
 h.toHAt.but k (by have:=h.o0 _ d.hb_own;simp;omega) (by have:=h.o0 _ d.gw_own;simp;omega) (by have:=h.o0 _ d.gm_own;simp;omega) (fun b o e=>by have:=h.o1 b o e;simp;omega) (fun b o e=>by have:=h.o2 b o e;simp;omega)
theorem copied (h:Mv w W d S g gm V M) (k:But [g] W W') (hn:WordsAt W' g V'):Mv w W' d S g gm V' M:=
 { h with toHAt:=h.far k h.g1,ext':=But.toExt h.ext' k (by simp;exact h.g1),new:=hn,moved:=h.moved.but k (by simp;exact fun e=>h.g3 e.symm) }
theorem cut {P:Program} {cd:Code} {Q:Exit->Act->World->Prop} {a:Act} (h:Mv w W d S g gm V M) (k:∀ w',Mv w w' d S g gm V M->cd.wp P Q a w'):cd.wp P Q a W:=k W h
theorem swap (h:Mv w W d S g gm V M) (hV:V.length=S.words.length) :
    HAt (W.setCell ⟨d.hb,2,none⟩ (.slice (some ⟨g,0,none⟩) S.words.length S.words.length)) { d with gw:=g,cap:=S.words.length } { S with words:=V }:=by
  have k:But [d.hb] W (W.setCell ⟨d.hb,2,none⟩ (.slice (some ⟨g,0,none⟩) S.words.length S.words.length)):=(But.refl _ _).setCell (.inl (by simp)) _;have o1:=h.o0 _ d.hb_own;have o2:=h.o0 _ d.gm_own;have g1:=h.g1;have q1:∀ b o,d.sp=some ⟨b,o,none⟩->b ∉ [d.hb]:=fun b o e=>by
   have:=h.far1 b o e;simp [Hd.own] at this;simp [this.1]
  have q2:∀ b o,d.op=some ⟨b,o,none⟩->b ∉ [d.hb]:=fun b o e=>by
   have:=h.far2 b o e;simp [Hd.own] at this;simp [this.1]
  exact
  { c0:=(World.cell?_setCell_other _ _ _ _ (by simp)).trans h.c0
    c1:=(World.cell?_setCell_other _ _ _ _ (by simp)).trans h.c1
    c2:=by simpa [hV] using World.cell?_setCell_same _ _ _ h.c2
    c3:=(World.cell?_setCell_other _ _ _ _ (by simp)).trans h.c3
    f2:=by simpa using h.f2
    sizes:=h.sizes.but k q1
    order:=h.order.but k q2
    words:=h.new.but k (by simp;omega)
    le:=by simp [hV]
    cap:=by have:=h.small;simp;omega
    map:=h.map.but k (by simp;exact fun e=>h.apart2 e.symm)
    below:=fun a ha=>by simpa [hV] using h.below a ha
    apart1:=by simp;omega
    apart2:=h.apart2
    apart3:=by simp;omega
    far1:=fun b o e=>by
     have a1:=h.far1 b o e;have a2:=h.o1 b o e;simp [Hd.own] at a1 ⊢;refine ⟨a1.1, ?_,a1.2.2⟩;omega
    far2:=fun b o e=>by
     have a1:=h.far2 b o e;have a2:=h.o2 b o e;simp [Hd.own] at a1 ⊢;refine ⟨a1.1, ?_,a1.2.2⟩;omega
    pos:=h.pos
    small:=by simp only [hV];exact h.small
    few:=h.few
    old1:=fun b o e=>Nat.lt_of_lt_of_le (h.old1 b o e) k.size
    old2:=fun b o e=>Nat.lt_of_lt_of_le (h.old2 b o e) k.size }
end Mv
theorem putI_len (k:Nat) (x:Int):∀ M:List (Nat × Int),(putI k x M).length<=M.length+1
 | []=>by simp [putI]
 | (a,v) :: r=>by
  unfold putI
  split
  . simp
  split
  . simp
  have:=putI_len k x r;simp;omega
theorem mem_putI {k:Nat} {x:Int}:∀ {M:List (Nat × Int)} {p:Nat × Int},p ∈ putI k x M->p=(k,x) \/ p ∈ M
 | [],p,h=>by simpa [putI] using h
 | (a,v) :: r,p,h=>by
  unfold putI at h
  split at h
  . rcases List.mem_cons.1 h with rfl | h
    . exact .inl rfl
    exact .inr h
  split at h
  . rcases List.mem_cons.1 h with rfl | h
    . exact .inl rfl
    exact .inr (by simp [h])
  rcases List.mem_cons.1 h with rfl | h
  . exact .inr (by simp)
  rcases mem_putI h with h | h
  . exact .inl h
  exact .inr (by simp [h])
theorem But.turned2 {l:List Nat} {a b c:World} {x:Nat} (h:But l a b) (k:But [g,x] b c) (hg:a.heap.size<=g) (hx:x ∈ l):But l a c:=
 ⟨k.os.trans h.os,k.tape.trans h.tape,k.output.trans h.output,Nat.le_trans h.size k.size,fun i hi hn=>(k.block i (Nat.lt_of_lt_of_le hi h.size) (by
  simp only [List.mem_cons,List.not_mem_nil,or_false,not_or];exact ⟨by omega,fun e=>hn (e ▸ hx)⟩)).trans (h.block i hi hn)⟩
structure Rl (w W:World) (d:Hd) (g n:Nat) (S:Hp.Hs) (gm:Nat) (M:List (Nat × Int)) (ps:Option Addr) (cs:Nat) (T:List Nat):Prop where
 at_:HAt W { d with gw:=g,cap:=n } S
 but:But d.own w W
 moved:MapIAt Tryz.prog W gm M
 cells:SliceAt W ps cs (natInts T)
 len:S.words.length=n
 a1:gm ≠ g
 a2:gm ≠ d.gm
 a3:∀ b o,ps=some ⟨b,o,none⟩->b ≠ g/\b ≠ d.gm
 a4:w.heap.size<=g
namespace Rl
variable {w W W':World} {d:Hd} {g n gm cs:Nat} {S S':Hp.Hs} {M:List (Nat × Int)} {ps:Option Addr} {T:List Nat}
theorem turn (h:Rl w W d g n S gm M ps cs T) (k:But [g,d.gm] W W') (h':HAt W' { d with gw:=g,cap:=n } S') (hl:S'.words.length=n):Rl w W' d g n S' gm M ps cs T:=
 { at_:=h'
   but:=h.but.turned2 k h.a4 d.gm_own
   moved:=h.moved.but k (by simp [h.a1,h.a2])
   cells:=h.cells.but k (fun b o e=>by simp [h.a3 b o e])
   len:=hl
   a1:=h.a1
   a2:=h.a2
   a3:=h.a3
   a4:=h.a4 }
theorem ext (h:Rl w W d g n S gm M ps cs T) (k:Ext W W'):Rl w W' d g n S gm M ps cs T:=h.turn (But.ofExt k) (h.at_.ext k) h.len
theorem set (h:Rl w W d g n S gm M ps cs T) {v:Int} {V:List Int} (hw:Hp.wr S.words j v=some V) (h1 : -9223372036854775808<=v) (h2:v<=9223372036854775807):Rl w (W.setCell ⟨g,j,none⟩ (.int .i64 v)) d g n { S with words:=V } gm M ps cs T:=
 h.turn ((But.refl _ _).setCell (.inl (by simp)) _) (h.at_.set hw h1 h2) ((HAt.wr_len hw).1.trans h.len)
theorem mapped (h:Rl w W d g n S gm M ps cs T) {T':List Nat} (k:W.mapTurned W' d.gm) (hm:MapAt Tryz.prog W' d.gm T') (hb:∀ a ∈ T',a < n):Rl w W' d g n { S with taken:=T' } gm M ps cs T:=
 h.turn ((But.refl _ _).turned k (.inl (by simp))) (h.at_.mapped (d:={ d with gw:=g,cap:=n }) k hm (fun a ha=>by rw [h.len];exact hb a ha)) h.len
theorem c2 (h:Rl w W d g n S gm M ps cs T):W.cell? ⟨d.hb,2,none⟩=some (.slice (some ⟨g,0,none⟩) n n):=by
 have:=h.at_.c2
 rw [h.len] at this
 exact this
theorem c3 (h:Rl w W d g n S gm M ps cs T):W.cell? ⟨d.hb,3,none⟩=some (.map (some d.gm)):=h.at_.c3
theorem get (h:Rl w W d g n S gm M ps cs T) (hx:Hp.rd S.words j=some x):W.cell? ⟨g,j,none⟩=some (.int .i64 x):=h.at_.words.get hx
theorem froz (h:Rl w W d g n S gm M ps cs T) (j:Nat):W.frozen? ⟨g,j,none⟩=false:=h.at_.words.froz j
theorem z1 (h:Rl w W d g n S gm M ps cs T):d.hb < W.heap.size:=h.at_.lt
theorem z2 (h:Rl w W d g n S gm M ps cs T):g < W.heap.size:=h.at_.words.lt
theorem cut {P:Program} {cd:Code} {Q:Exit->Act->World->Prop} {a:Act} (h:Rl w W d g n S gm M ps cs T) (k:∀ w',Rl w w' d g n S gm M ps cs T->cd.wp P Q a w'):cd.wp P Q a W:=k W h
end Rl
def MovePost (w:World) (d:Hd) (M:List (Nat × Int)) (S:Hp.Hs) (e:Ending) (w':World):Prop:=
 ∃ g gm,e = .returned (.map (some gm))/\HAt w' { d with gw:=g,cap:=S.words.length } S/\MapIAt Tryz.prog w' gm M/\But d.own w w'/\w.heap.size<=g/\w.heap.size<=gm/\g ≠ gm
theorem Rl.post {W:World} {cs:Nat} {ps:Option Addr} (h:Rl w W d g n S w.heap.size M ps cs T) (hg:w.heap.size+1<=g):MovePost w d M S (.returned (.map (some w.heap.size))) W:=
 ⟨g,w.heap.size,rfl,by rw [h.len];exact h.at_,h.moved,h.but,by omega,Nat.le_refl _,by omega⟩
end Go.Proofs.YtdokmmhjmclmnaaGreat
