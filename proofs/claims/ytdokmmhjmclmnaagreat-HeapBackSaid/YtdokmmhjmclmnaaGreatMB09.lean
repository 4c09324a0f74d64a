/-
  Part 9 of a proof: HFn23 HFn24 HFn28 HFn31 HPlayM HFn35 HFn36 RegFork HFn37 HFn38.
-/
import Derived.Deep.CutBlock
import Derived.Deep.OwnRows
import Derived.Test.YtdokmmhjmclmnaaGreatMB02
import Derived.Test.YtdokmmhjmclmnaaGreatMB06
import Derived.Test.YtdokmmhjmclmnaaGreatMB07
import Derived.Test.YtdokmmhjmclmnaaGreatMB08
set_option linter.unusedSimpArgs false
set_option linter.unusedVariables false
set_option linter.unusedSectionVars false
set_option linter.unnecessarySimpa false
namespace Go.Proofs.YtdokmmhjmclmnaaGreat
namespace Hp
def insI (x:Int):List Int → List Int
 | []=>[x]
 | y :: r=>if x ≤ y then x :: y :: r else y :: insI x r
def sortI:List Int → List Int
 | []=>[]
 | x :: r=>insI x (sortI r)
def upto (n:Nat):List Int:=(List.range n).map fun x:Nat=>(x:Int)
def frameErr (sizes order:List Int):Int:=
 if sizes.length > 6 then 5 else
 if sizes.all (fun n=>decide (1 ≤ n) && decide (n ≤ 12))=false then 3 else
 if sizes.foldl (· * ·) 1 > 2000 then 5 else
 if sortI order=upto sizes.length then 0 else 4
def newErr (sizes order:List Int) (words:Int):Int:=
 if frameErr sizes order ≠ 0 then frameErr sizes order else if within 32 40000 words then 0 else 3
end Hp
open Go.RowKit Go.Maps Go.Sort Go.Shelf
theorem perm_insI (x:Int):∀ l:List Int,(Hp.insI x l).Perm (x :: l)
 | []=>List.Perm.refl _
 | y :: r=>by
  unfold Hp.insI
  split
  · exact List.Perm.refl _
  · exact ((perm_insI x r).cons y).trans (List.Perm.swap x y r)
theorem perm_sortI:∀ l:List Int,(Hp.sortI l).Perm l
 | []=>List.Perm.refl _
 | x :: r=>(perm_insI x _).trans ((perm_sortI r).cons x)
theorem sorted_insI (x:Int):∀ {l:List Int},l.Pairwise (· ≤ ·) → (Hp.insI x l).Pairwise (· ≤ ·)
 | [],_=>by simp [Hp.insI]
 | y :: r,h=>by
  obtain ⟨h1,h2⟩:=List.pairwise_cons.1 h;unfold Hp.insI
  split
  · rename_i hxy;refine List.pairwise_cons.2 ⟨fun z hz=>?_,h⟩
    rcases List.mem_cons.1 hz with rfl | hz
    · exact hxy
    · exact Int.le_trans hxy (h1 z hz)
  · rename_i hxy;refine List.pairwise_cons.2 ⟨fun z hz=>?_,sorted_insI x h2⟩
    rcases List.mem_cons.1 ((perm_insI x r).mem_iff.1 hz) with rfl | hz
    · omega
    · exact h1 z hz
theorem sorted_sortI:∀ l:List Int,(Hp.sortI l).Pairwise (· ≤ ·)
 | []=>List.Pairwise.nil
 | x :: r=>sorted_insI x (sorted_sortI r)
theorem mergeSort_eq (l:List Int):l.mergeSort (fun x y=>decide (x ≤ y))=Hp.sortI l:=by
 refine List.Perm.eq_of_pairwise (le:=fun a b:Int=>a ≤ b) (fun a b _ _ h1 h2=>by omega) ?_ (sorted_sortI l) ((List.mergeSort_perm _ _).trans (perm_sortI l).symm)
 have:=List.pairwise_mergeSort (le:=fun x y:Int=>decide (x ≤ y)) (fun a b c h1 h2=>by simp at *;omega) (fun a b=>by simp;omega) l
 exact this.imp fun h=>by simpa using h
theorem sortI_length (l:List Int):(Hp.sortI l).length=l.length:=(perm_sortI l).length_eq
def SortPost (w:World) (base:Nat) (p:Option Addr) (c:Nat) (l:List Int) (e:Ending) (w':World):Prop:=e = .returned (.tuple #[]) ∧ Row w' base p c (Hp.sortI l) ∧ ∃ row,w.grownBy w' row ∧ ∀ r,row=some r → base ≤ r
theorem sSort_any {w:World} {base c:Nat} {p:Option Addr} {l:List Int} (h:Row w base p c l) (hlen:l.length ≤ 1000000):Calls Tryz.prog 163 #[.slice p l.length c] w (SortPost w base p c l):=by
 rcases h.1.2 with ⟨e,hz⟩ | ⟨g,cap,cur,e,h1,hg,r1,r2,r3,r4⟩
 · injection e with e1 e2 e3
   have:l=[]:=List.eq_nil_of_length_eq_zero hz;subst this;subst e1;refine (AnyM.slices_Sort_int_none Tryz.sortA none c w).mono ?_;rintro e w' ⟨rfl,rfl⟩;exact ⟨rfl,by simpa [Hp.sortI] using h,none,World.grownBy.refl _ _,fun r hr=>by cases hr⟩
 · injection e with e1 e2 e3
   subst e1 e3;have hH:Holds encZ w g 0 l.toArray:=holds_of_block_i hg (by simpa [ints,encZ] using r4);have hgl:g < w.heap.size:=(Array.getElem?_eq_some_iff.1 hg).1;refine (AnyM.slices_Sort_int Tryz.sortA g 0 c l w hH hgl (by omega)).mono ?_;rintro e w' ⟨rfl,n,os,rfl⟩;rw [mergeSort_eq];refine ⟨rfl,⟨?_,fun x hx=>h.2 x ((perm_sortI l).mem_iff.1 hx)⟩,some g,grownBy_sorted_i _,fun r hr=>by cases hr;exact h1⟩;have:=ownsRow_sorted_i (n:=n) (os:=os) (sortI_length l) h1 hg r1 r2 r3;rw [sortI_length]
   simpa [ints,encZ] using this
theorem nWithin1_any {w:World} {b1 b2:Nat} {least most n:Int} (h1:w.cell? ⟨b1,0,none⟩=some (.int .i64 least)) (h2:w.cell? ⟨b2,0,none⟩=some (.int .i64 most)) :
    Calls Tryz.prog 185 #[.int .i64 n,.pointer (some ⟨b1,0,none⟩),.pointer (some ⟨b2,0,none⟩)] w fun e w'=>e = .returned (.bool (!(decide (least ≤ n) && decide (n ≤ most)))) ∧ Ext w w':=by
  by_cases c1:n < least
  · have e:(!(decide (least ≤ n) && decide (n ≤ most)))=true:=by simp;omega
    rw [e];clear e;go_enter Tryz.func185,Tryz.ntmps185;go_wp2
    all_goals go_returns
    exact ⟨rfl,exx⟩
  · by_cases c2:n > most
    · have e:(!(decide (least ≤ n) && decide (n ≤ most)))=true:=by simp;omega
      rw [e];clear e;have c3:decide (n < least)=false:=by simpa using c1
      go_enter Tryz.func185,Tryz.ntmps185;go_wp2
      all_goals go_returns
      exact ⟨rfl,exx⟩
    · have e:(!(decide (least ≤ n) && decide (n ≤ most)))=false:=by simp;omega
      rw [e];clear e;have c3:decide (n < least)=false:=by simpa using c1
      have c4:decide (n > most)=false:=by simpa using c2
      go_enter Tryz.func185,Tryz.ntmps185;go_wp2
      all_goals go_returns
      exact ⟨rfl,exx⟩
theorem nWithin_any {w:World} {p:Option Addr} {c:Nat} {least most:Int} {l:List Int} {b:Bool} (h:SliceAt w p c l) (hb:l.all (fun n=>decide (least ≤ n) && decide (n ≤ most))=b) :
    Calls Tryz.prog 165 #[.int .i64 least,.int .i64 most,.slice p l.length c] w fun e w'=>e = .returned (.bool b) ∧ Ext w w':=by
  rw [all_any] at hb;have key:∀ t1 t2,Says ((w.alloc (.cells #[.int .i64 least] t1)).alloc (.cells #[.int .i64 most] t2)) 185 #[] #[.pointer (some ⟨w.heap.size,0,none⟩),.pointer (some ⟨w.heap.size+1,0,none⟩)] l (fun n=>!(decide (least ≤ n) && decide (n ≤ most))):=by
   intro t1 t2 j x hx _ W hW;have g1:W.cell? ⟨w.heap.size,0,none⟩=some (.int .i64 least):=by
    rw [hW.cell (by simp;omega) 0];go_simp
   have g2:W.cell? ⟨w.heap.size+1,0,none⟩=some (.int .i64 most):=by
    rw [hW.cell (by simp) 0];go_simp
   have:=nWithin1_any (n:=x) g1 g2
   simpa using this
  have H:=Lib.hid h;have K:=Lib.hid key;generalize hq:(l.any fun x=>!(decide (least ≤ x) && decide (x ≤ most)))=b0 at hb;have HQ:=Lib.hid hq;clear h key hq;subst hb;go_enter Tryz.func165,Tryz.ntmps165
  go_wp2_with (go_at_call 167;refine (sContainsFunc_any (enters_of Tryz.func185 (by kernel_rfl) rfl) (H.out.ext (exx)) (K.out _ _) HQ.out).mono ?_;rintro e w1 ⟨rfl,hb1⟩;obtain ⟨hc1,hf1,hs1⟩:=hb1.cells)
  go_returns;exact ⟨rfl,exx⟩
open Go.RowKit Go.Maps
def filled (n j:Nat):List Int:=Hp.upto j ++ List.replicate (n-j) 0
theorem filled_len {n j:Nat} (h:j ≤ n):(filled n j).length=n:=by simp [filled,Hp.upto];omega
theorem filled_step {n j:Nat} (h:j < n):Hp.wr (filled n j) j (j:Int)=some (filled n (j+1)):=by
 unfold Hp.wr
 rw [if_pos (by rw [filled_len (by omega)];exact h)]
 congr 1
 unfold filled
 rw [List.set_append_right _ _ (by simp [Hp.upto])]
 have e1:j-(Hp.upto j).length=0:=by simp [Hp.upto]
 rw [e1,show n-j=(n-(j+1))+1 by omega,List.replicate_succ,List.set_cons_zero]
 unfold Hp.upto
 rw [List.range_succ,List.map_append]
 simp
theorem filled_full (n:Nat):filled n n=Hp.upto n:=by simp [filled]
def NumPost (w:World) (n:Nat) (e:Ending) (w':World):Prop:=∃ g,e = .returned (.slice (some ⟨g,0,none⟩) n n) ∧ SliceAt w' (some ⟨g,0,none⟩) n (Hp.upto n) ∧ Ext w w'
theorem made_words (w:World) (n:Nat):WordsAt (w.alloc (.cells (madeCells #[.int .i64 0] n) 3)) w.heap.size (List.replicate n 0):=by
 refine ⟨⟨[], ?_⟩,fun x hx=>by rw [List.eq_of_mem_replicate hx];omega⟩
 rw [heap_new]
 congr 2
 apply Array.ext
 · simp [ints,size_madeCells]
 · intro i h1 h2;have hi:i < n:=by simpa [size_madeCells] using h1
   simp [madeCells,ints,hi,Nat.mod_one]
set_option maxHeartbeats 2000000 in
theorem numbers_any {w:World} {n:Nat} (hn:n ≤ 1000):Calls Tryz.prog 166 #[.int .i64 n] w (NumPost w n):=by
 have hmk:=run_make_row' (P:=Tryz.prog) 22 3 (.int .i64 0) 8 Tryz.underlying22 (show (Tryz.prog.info? 3).map (fun i=>(i.zero,i.size,i.bytes))=some (some (.int .i64 0),1,8) from by kernel_rfl) rfl .i64 .i64 n (by omega) (by omega)
 go_enter Tryz.func166,Tryz.ntmps166
 go_wp2_with fail
 clear hmk
 have W0:=Lib.hid (show WordsAt (w.alloc (.cells (madeCells #[.int .i64 0] n) 3)) w.heap.size (filled n 0) by simpa [filled,Hp.upto] using made_words w n)
 have E0:Ext w (w.alloc (.cells (madeCells #[.int .i64 0] n) 3)):=exx
 generalize (w.alloc (.cells (madeCells #[.int .i64 0] n) 3))=w1 at W0 E0 ⊢
 have E0':=Lib.hid E0
 clear E0
 go_loopg [8] n (fun g i wr=>∃ j:Nat,j ≤ n ∧ n-j ≤ g ∧ i = .int .i64 j ∧ Hid (WordsAt wr w.heap.size (filled n j)) ∧ Hid (Ext w wr))
 case atStart=>exact ⟨0,Nat.zero_le _,by omega,rfl,W0,E0'⟩
 case round=>
  obtain ⟨j,hj,hg,rfl,W,E⟩:=hrel;clear W0 E0'
  by_cases hlt:j < n
  · obtain ⟨y,hy⟩:=rd_get (l:=filled n j) (j:=j) (by rw [filled_len hj];exact hlt);have g1:=W.out.get hy;have f1:=W.out.froz j;have W1:=Lib.hid (W.out.set (filled_step hlt) (by omega) (by omega));have E1:=Lib.hid (Ext.setCell E.out (p:=⟨w.heap.size,j,none⟩) (Nat.le_refl _) (.int .i64 j));clear hy
    go_wp2_with fail
    go_roundg (n-(j+1))
    case measure=>omega
    case rel=>exact ⟨j+1,by omega,Nat.le_refl _,by go_num,W1,E1⟩
  · have:j=n:=by omega
    subst this
    go_wp2_with fail
    go_returns;have h1:=W.out;rw [filled_full] at h1;have hl:(Hp.upto j).length=j:=by simp [Hp.upto]
    exact ⟨w.heap.size,rfl,⟨by rw [hl];exact Nat.le_refl _,by omega,h1.wf,fun _=>⟨w.heap.size,0,rfl,h1.lt,fun i x hx=>by rw [Nat.zero_add];exact h1.get hx⟩⟩,E.out⟩
theorem upto_length (n:Nat):(Hp.upto n).length=n:=by simp [Hp.upto]
theorem ext_grow {w0 w w':World} {row:Option Nat} (h:Ext w0 w) (k:w.grownBy w' row) (hr:∀ g,row=some g → w0.heap.size ≤ g):Ext w0 w':=
 But.toExt (Ext.refl w0) (but_grow (But.ofExt (l:=[]) h) k hr) (by simp)
def prodI (l:List Int):Int:=l.foldl (· * ·) 1
theorem prodI_snoc (l:List Int) (x:Int):prodI (l ++ [x])=prodI l * x:=by simp [prodI,List.foldl_append]
theorem take_snocI {l:List Int} {j:Nat} {x:Int} (h:Hp.rd l j=some x):l.take (j+1)=l.take j ++ [x]:=by
 obtain ⟨hl,rfl⟩:=List.getElem?_eq_some_iff.1 h
 exact List.take_succ_eq_append_getElem hl
theorem pow12 {j:Nat} (h:j ≤ 6):(12:Int) ^ j ≤ 2985984:=by
 have hh:j=0 ∨ j=1 ∨ j=2 ∨ j=3 ∨ j=4 ∨ j=5 ∨ j=6:=by omega
 rcases hh with rfl | rfl | rfl | rfl | rfl | rfl | rfl <;> decide
set_option maxRecDepth 100000 in
set_option maxHeartbeats 4000000 in
theorem frame_any {w:World} {p q:Option Addr} {c d:Nat} {sizes order:List Int} (hs:SliceAt w p c sizes) (ho:SliceAt w q d order) (hq:0 < order.length ∨ q=none) (hol:order.length ≤ 1000000) :
    Calls Tryz.prog 121 #[.slice p sizes.length c,.slice q order.length d] w fun e w'=>e = .returned (.int .i64 (Hp.frameErr sizes order)) ∧ Ext w w':=by
  have HS:=Lib.hid hs;have HO:=Lib.hid ho;have hsc:=hs.le;have hscc:=hs.cap;clear hs ho
  by_cases h6:sizes.length > 6
  · have e:Hp.frameErr sizes order=5:=by unfold Hp.frameErr;rw [if_pos h6]
    rw [e];clear e;go_enter Tryz.func121,Tryz.ntmps121
    go_wp2_with fail
    go_returns;exact ⟨rfl,exx⟩
  · cases hall:sizes.all (fun n=>decide (1 ≤ n) && decide (n ≤ 12)) with
    | false=>
     have e:Hp.frameErr sizes order=3:=by unfold Hp.frameErr;rw [if_neg h6,if_pos hall]
     rw [e];have HA:=Lib.hid hall;clear e hall;go_enter Tryz.func121,Tryz.ntmps121
     go_wp2_with (go_at_call 165;refine (nWithin_any HS.out HA.out).mono ?_;rintro e w1 ⟨rfl,hb1⟩;obtain ⟨hc1,hf1,hs1⟩:=hb1.cells)
     go_returns;exact ⟨rfl,exx⟩
    | true=>
     have e:Hp.frameErr sizes order=if prodI sizes > 2000 then 5 else if Hp.sortI order=Hp.upto sizes.length then 0 else 4:=by
      unfold Hp.frameErr prodI;rw [if_neg h6,if_neg (by rw [hall];simp)]
     rw [e];have HA:=Lib.hid hall;obtain ⟨ee,hee⟩:∃ ee,(if prodI sizes > 2000 then 5 else if Hp.sortI order=Hp.upto sizes.length then 0 else 4:Int)=ee:=⟨_,rfl⟩
     rw [hee];have HE:=Lib.hid hee;clear e hall hee;obtain ⟨n,hn⟩:∃ n,sizes.length=n:=⟨_,rfl⟩
     have HN:=Lib.hid hn;rw [hn] at h6 hsc ⊢;clear hn;go_enter Tryz.func121,Tryz.ntmps121
     go_wp2_with (go_at_call 165;refine ((HN.out ▸ nWithin_any HS.out HA.out)).mono ?_;rintro e w1 ⟨rfl,hb1⟩;obtain ⟨hc1,hf1,hs1⟩:=hb1.cells)
     have E1:=Lib.hid hb1;clear hb1 hc1 hf1 hs1
     go_loopg [5,19] n (fun g s i wr=>∃ (j:Nat) (m:Int),j ≤ n ∧ n-j ≤ g ∧ i = .int .i64 j ∧ s = .int .i64 m ∧ 0 ≤ m ∧ Hid (m ≤ (12:Int) ^ j) ∧ Hid (m=prodI (sizes.take j)) ∧ Hid (Ext w wr))
     case atStart=>exact ⟨0,1,Nat.zero_le _,by omega,rfl,rfl,by omega,Lib.hid (by simp),Lib.hid rfl,E1⟩
     case round=>
      obtain ⟨j,m,hj,hg,rfl,rfl,hm0,HM,HP,E⟩:=hrel;clear E1
      by_cases hlt:j < n
      · obtain ⟨x,hx⟩:=rd_get (l:=sizes) (j:=j) (by rw [HN.out];exact hlt);have hxb:=List.all_eq_true.1 HA.out x (List.mem_of_getElem? hx);simp only [Bool.and_eq_true,decide_eq_true_eq] at hxb;obtain ⟨b,o,rfl,hb,hcell⟩:=(HS.out.ext E.out).cells (by rw [HN.out];omega);have gx:=hcell j x hx;have HX:=Lib.hid hx;have hmb:=Int.le_trans HM.out (pow12 (by omega:j ≤ 6));have hp1:m * x ≤ (12:Int) ^ (j+1):=by
         rw [Int.pow_succ];exact Int.mul_le_mul HM.out hxb.2 (by omega) (Int.pow_nonneg (by omega))
        have hp0:0 ≤ m * x:=Int.mul_nonneg hm0 (by omega);have hp2:=Int.le_trans hp1 (pow12 (by omega:j+1 ≤ 6));have HP1:=Lib.hid hp1;have HP2:=Lib.hid (show m * x=prodI (sizes.take (j+1)) by rw [take_snocI hx,prodI_snoc,HP.out]);clear hcell hx hp1 hxb HM HP;generalize he:m * x=qv at hp0 hp2 HP1 HP2;have e2:wrap64 (m * x)=qv:=by rw [he];exact IntWalk.wrap64_in _ ⟨by omega,by omega⟩
        clear he
        go_wp2_with fail
        go_roundg (n-(j+1))
        case measure=>omega
        case rel=>exact ⟨j+1,qv,by omega,Nat.le_refl _,by go_num,by rw [e2],hp0,HP1,HP2,E⟩
      · have:j=n:=by omega
        subst this;have hp:=HP.out;rw [← HN.out,List.take_length] at hp;have HPR:=Lib.hid hp;have hm2:=Int.le_trans HM.out (pow12 (by omega));clear hp HM HP
        by_cases h2:m > 2000
        · have hee:=HE.out;rw [← HPR.out,if_pos h2] at hee;subst hee
          go_wp2_with fail
          go_returns;exact ⟨rfl,E.out⟩
        · have hee:=HE.out;rw [← HPR.out,if_neg h2] at hee;have HE2:=Lib.hid hee;clear hee HE
          go_wp2_with (first
           | (go_at_call 60;refine (sClone_any (HO.out.ext E.out) hq hol).mono ?_;rintro e w2 ⟨p2,c2,rfl,hR2,hE2,_⟩)
           | (go_at_call 163;refine (sSort_any hR2 hol).mono ?_;rintro e w3 ⟨rfl,hR3,hG3⟩)
           | (go_at_call 166;refine (numbers_any (by omega)).mono ?_;rintro e w4 ⟨g4,rfl,hS4,hE4⟩))
          obtain ⟨row,hgr,hrow⟩:=id hG3;have E3:=ext_grow hE2 hgr hrow;have E5:=E.out.trans (E3.trans hE4);have hS5:=(hR3.at_).ext hE4;have hlS:=sortI_length order;have hee:=HE2.out
          by_cases hso:Hp.sortI order=Hp.upto sizes.length
          · rw [if_pos hso] at hee;subst hee;rw [HN.out] at hso;have hEq:=sEqual_is (decide_eq_true hso) hS5 (show SliceAt w4 (some ⟨g4,0,none⟩) j (Hp.upto j) from hS4);rw [hlS,upto_length] at hEq;have HQ:=Lib.hid hEq;clear hEq hso hS5 hS4 hR3 hG3 hgr hrow hR2;refine HQ.out.mono ?_;rintro e w5 ⟨rfl,hE5⟩
            go_wp2_with fail
            go_returns;exact ⟨rfl,E5.trans hE5⟩
          · rw [if_neg hso] at hee;subst hee;rw [HN.out] at hso;have hEq:=sEqual_is (decide_eq_false hso) hS5 (show SliceAt w4 (some ⟨g4,0,none⟩) j (Hp.upto j) from hS4);rw [hlS,upto_length] at hEq;have HQ:=Lib.hid hEq;clear hEq hso hS5 hS4 hR3 hG3 hgr hrow hR2;refine HQ.out.mono ?_;rintro e w5 ⟨rfl,hE5⟩
            go_wp2_with fail
            go_returns;exact ⟨rfl,E5.trans hE5⟩
theorem hcheck_any {w:World} {p q:Option Addr} {c d:Nat} {words:Int} {sizes order:List Int} (hs:SliceAt w p c sizes) (ho:SliceAt w q d order) (hq:0 < order.length ∨ q=none) (hol:order.length ≤ 1000000) :
    Calls Tryz.prog 59 #[.slice p sizes.length c,.slice q order.length d,.int .i64 words] w fun e w'=>e = .returned (.int .i64 (Hp.newErr sizes order words)) ∧ Ext w w':=by
  have HC:=Lib.hid (frame_any hs ho hq hol);clear hs ho
  by_cases h0:Hp.frameErr sizes order=0
  · cases hw:Hp.within 32 40000 words with
    | true=>
     have e:Hp.newErr sizes order words=0:=by simp [Hp.newErr,h0,hw]
     rw [e];have HW:=Lib.hid hw;have HC':=Lib.hid (h0 ▸ HC.out);clear e h0 hw HC;go_enter Tryz.func59,Tryz.ntmps59
     go_wp2_with (first
      | (go_at_call 121;refine (HC'.out).mono ?_;rintro e w1 ⟨rfl,hb1⟩;obtain ⟨hc1,hf1,hs1⟩:=hb1.cells)
      | (go_at_call 105;refine ((HW.out ▸ within_any 32 40000 words _)).mono ?_;rintro e w2 ⟨rfl,hb2⟩;obtain ⟨hc2,hf2,hs2⟩:=hb2.cells))
     go_returns;exact ⟨rfl,exx⟩
    | false=>
     have e:Hp.newErr sizes order words=3:=by simp [Hp.newErr,h0,hw]
     rw [e];have HW:=Lib.hid hw;have HC':=Lib.hid (h0 ▸ HC.out);clear e h0 hw HC;go_enter Tryz.func59,Tryz.ntmps59
     go_wp2_with (first
      | (go_at_call 121;refine (HC'.out).mono ?_;rintro e w1 ⟨rfl,hb1⟩;obtain ⟨hc1,hf1,hs1⟩:=hb1.cells)
      | (go_at_call 105;refine ((HW.out ▸ within_any 32 40000 words _)).mono ?_;rintro e w2 ⟨rfl,hb2⟩;obtain ⟨hc2,hf2,hs2⟩:=hb2.cells))
     go_returns;exact ⟨rfl,exx⟩
  · have e:Hp.newErr sizes order words=Hp.frameErr sizes order:=by simp [Hp.newErr,h0]
    rw [e];have t0:(Hp.frameErr sizes order != 0)=true:=by simpa using h0
    clear e h0;generalize Hp.frameErr sizes order=fe at *;go_enter Tryz.func59,Tryz.ntmps59
    go_wp2_with (go_at_call 121;refine (HC.out).mono ?_;rintro e w1 ⟨rfl,hb1⟩;obtain ⟨hc1,hf1,hs1⟩:=hb1.cells)
    go_returns;exact ⟨rfl,exx⟩
theorem WordsAt.copied {w:World} {g:Nat} {V V':List Int} {p:Option Addr} {c i:Nat} {l:List Int} (h:WordsAt w g V) (hs:SliceAt w p c l) (h0:0 < l.length) (hw:Hp.lay V i l=some V') :
    ∃ w',(∀ n c' ty,l.length ≤ n → (Builtin.copy_ #[22,22] ty #[.slice (some ⟨g,i,none⟩) n c',.slice p l.length c]).run Tryz.prog w = .ok (goInt (l.length:Nat)) w') ∧ WordsAt w' g V' ∧ But [g] w w':=by
  obtain ⟨b,o,rfl,hb,hx⟩:=hs.cells h0;obtain ⟨s,hg⟩:=h.row;have hl:=HAt.lay_len hw;have hfit:i+(ints l).length ≤ (ints V ++ s).toArray.size:=by simp [ints];omega
  have k1:But [g] w (w.setRow g (splice (ints V ++ s) i (ints l)).toArray):=(But.refl _ _).setRow (.inl (by simp)) _;refine ⟨w.setRow g (splice (ints V ++ s) i (ints l)).toArray,fun n c' ty hn=>?_,h.spliced hw hs.wf (fun cur hcur hle=>?_),k1⟩
  · have hm:Nat.min l.length n=l.length:=Nat.min_eq_left hn;have:=run_copy_rowK (P:=Tryz.prog) w 22 22 ty 3 1 g i n c' ⟨b,o,none⟩ l.length c _ 3 (ints l) Tryz.underlying22 (by kernel_rfl) hg (by rw [hm];simp [ints]) (fun j v hj=>by
     rw [Addr.add_lit];obtain ⟨hj1,hj2⟩:=List.getElem?_eq_some_iff.1 hj;have hj3:j < l.length:=by simpa [ints] using hj1
     rw [hx j l[j] (List.getElem?_eq_getElem hj3),← hj2];simp [ints]) hfit (fun v hv=>by
     obtain ⟨x,_,rfl⟩:=List.mem_map.1 hv;rfl)
    rw [hm] at this;rw [this];simp only [List.toList_toArray,splice,List.append_assoc]
  · rw [hg] at hcur;have e:cur=ints V ++ s:=by
     have:=Option.some.inj hcur;injection this with e1
     simpa using e1.symm
    subst e;exact setRow_heap w g _ _ _ _ hg
structure Mv (w W:World) (d:Hd) (S:Hp.Hs) (g gm:Nat) (V:List Int) (M:List (Nat × Int)):Prop extends HAt W d S where
 ext':Ext w W
 new:WordsAt W g V
 moved:MapIAt Tryz.prog W gm M
 g1:w.heap.size ≤ g
 g2:w.heap.size ≤ gm
 g3:g ≠ gm
 o0:∀ b ∈ d.own,b < w.heap.size
 o1:∀ b o,d.sp=some ⟨b,o,none⟩ → b < w.heap.size
 o2:∀ b o,d.op=some ⟨b,o,none⟩ → b < w.heap.size
namespace Mv
variable {w W W':World} {d:Hd} {S:Hp.Hs} {g gm:Nat} {V V':List Int} {M M':List (Nat × Int)}
theorem ext (h:Mv w W d S g gm V M) (k:Ext W W'):Mv w W' d S g gm V M:=
 { h with toHAt:=h.toHAt.ext k,ext':=h.ext'.trans k,new:=h.new.ext k,moved:=h.moved.ext k }
theorem far (h:Mv w W d S g gm V M) {x:Nat} (k:But [x] W W') (hx:w.heap.size ≤ x):HAt W' d S:=
 h.toHAt.but k (by have:=h.o0 _ d.hb_own;simp;omega) (by have:=h.o0 _ d.gw_own;simp;omega) (by have:=h.o0 _ d.gm_own;simp;omega) (fun b o e=>by have:=h.o1 b o e;simp;omega) (fun b o e=>by have:=h.o2 b o e;simp;omega)
theorem copied (h:Mv w W d S g gm V M) (k:But [g] W W') (hn:WordsAt W' g V'):Mv w W' d S g gm V' M:=
 { h with toHAt:=h.far k h.g1,ext':=But.toExt h.ext' k (by simp;exact h.g1),new:=hn,moved:=h.moved.but k (by simp;exact fun e=>h.g3 e.symm) }
theorem cut {P:Program} {cd:Code} {Q:Exit → Act → World → Prop} {a:Act} (h:Mv w W d S g gm V M) (k:∀ w',Mv w w' d S g gm V M → cd.wp P Q a w'):cd.wp P Q a W:=k W h
theorem swap (h:Mv w W d S g gm V M) (hV:V.length=S.words.length) :
    HAt (W.setCell ⟨d.hb,2,none⟩ (.slice (some ⟨g,0,none⟩) S.words.length S.words.length)) { d with gw:=g,cap:=S.words.length } { S with words:=V }:=by
  have k:But [d.hb] W (W.setCell ⟨d.hb,2,none⟩ (.slice (some ⟨g,0,none⟩) S.words.length S.words.length)):=(But.refl _ _).setCell (.inl (by simp)) _;have o1:=h.o0 _ d.hb_own;have o2:=h.o0 _ d.gm_own;have g1:=h.g1;have q1:∀ b o,d.sp=some ⟨b,o,none⟩ → b ∉ [d.hb]:=fun b o e=>by
   have:=h.far1 b o e;simp [Hd.own] at this;simp [this.1]
  have q2:∀ b o,d.op=some ⟨b,o,none⟩ → b ∉ [d.hb]:=fun b o e=>by
   have:=h.far2 b o e;simp [Hd.own] at this;simp [this.1]
  exact
  { c0:=(World.cell?_setCell_other _ _ _ _ (by simp)).trans h.c0
    c1:=(World.cell?_setCell_other _ _ _ _ (by simp)).trans h.c1
    c2:=by simpa [hV] using World.cell?_setCell_same _ _ _ h.c2
    c3:=(World.cell?_setCell_other _ _ _ _ (by simp)).trans h.c3
    f2:=by simpa using h.f2
    sizes:=h.sizes.but k q1
    order:=h.order.but k q2
    words:=h.new.but k (by simp;omega)
    le:=by simp [hV]
    cap:=by have:=h.small;simp;omega
    map:=h.map.but k (by simp;exact fun e=>h.apart2 e.symm)
    below:=fun a ha=>by simpa [hV] using h.below a ha
    apart1:=by simp;omega
    apart2:=h.apart2
    apart3:=by simp;omega
    far1:=fun b o e=>by
     have a1:=h.far1 b o e;have a2:=h.o1 b o e;simp [Hd.own] at a1 ⊢;refine ⟨a1.1, ?_,a1.2.2⟩;omega
    far2:=fun b o e=>by
     have a1:=h.far2 b o e;have a2:=h.o2 b o e;simp [Hd.own] at a1 ⊢;refine ⟨a1.1, ?_,a1.2.2⟩;omega
    pos:=h.pos
    small:=by simp only [hV];exact h.small
    few:=h.few
    old1:=fun b o e=>Nat.lt_of_lt_of_le (h.old1 b o e) k.size
    old2:=fun b o e=>Nat.lt_of_lt_of_le (h.old2 b o e) k.size }
end Mv
theorem putI_len (k:Nat) (x:Int):∀ M:List (Nat × Int),(putI k x M).length ≤ M.length+1
 | []=>by simp [putI]
 | (a,v) :: r=>by
  unfold putI
  split
  · simp
  · split
    · simp
    · have:=putI_len k x r;simp;omega
theorem mem_putI {k:Nat} {x:Int}:∀ {M:List (Nat × Int)} {p:Nat × Int},p ∈ putI k x M → p=(k,x) ∨ p ∈ M
 | [],p,h=>by simpa [putI] using h
 | (a,v) :: r,p,h=>by
  unfold putI at h
  split at h
  · rcases List.mem_cons.1 h with rfl | h
    · exact .inl rfl
    · exact .inr h
  · split at h
    · rcases List.mem_cons.1 h with rfl | h
      · exact .inl rfl
      · exact .inr (by simp [h])
    · rcases List.mem_cons.1 h with rfl | h
      · exact .inr (by simp)
      · rcases mem_putI h with h | h
        · exact .inl h
        · exact .inr (by simp [h])
theorem But.turned2 {l:List Nat} {a b c:World} {g x:Nat} (h:But l a b) (k:But [g,x] b c) (hg:a.heap.size ≤ g) (hx:x ∈ l):But l a c:=
 ⟨k.os.trans h.os,k.tape.trans h.tape,k.output.trans h.output,Nat.le_trans h.size k.size,fun i hi hn=>(k.block i (Nat.lt_of_lt_of_le hi h.size) (by
  simp only [List.mem_cons,List.not_mem_nil,or_false,not_or];exact ⟨by omega,fun e=>hn (e ▸ hx)⟩)).trans (h.block i hi hn)⟩
structure Rl (w W:World) (d:Hd) (g n:Nat) (S:Hp.Hs) (gm:Nat) (M:List (Nat × Int)) (ps:Option Addr) (cs:Nat) (T:List Nat):Prop where
 at_:HAt W { d with gw:=g,cap:=n } S
 but:But d.own w W
 moved:MapIAt Tryz.prog W gm M
 cells:SliceAt W ps cs (natInts T)
 len:S.words.length=n
 a1:gm ≠ g
 a2:gm ≠ d.gm
 a3:∀ b o,ps=some ⟨b,o,none⟩ → b ≠ g ∧ b ≠ d.gm
 a4:w.heap.size ≤ g
namespace Rl
variable {w W W':World} {d:Hd} {g n gm cs:Nat} {S S':Hp.Hs} {M:List (Nat × Int)} {ps:Option Addr} {T:List Nat}
theorem turn (h:Rl w W d g n S gm M ps cs T) (k:But [g,d.gm] W W') (h':HAt W' { d with gw:=g,cap:=n } S') (hl:S'.words.length=n):Rl w W' d g n S' gm M ps cs T:=
 { at_:=h'
   but:=h.but.turned2 k h.a4 d.gm_own
   moved:=h.moved.but k (by simp [h.a1,h.a2])
   cells:=h.cells.but k (fun b o e=>by simp [h.a3 b o e])
   len:=hl
   a1:=h.a1
   a2:=h.a2
   a3:=h.a3
   a4:=h.a4 }
theorem ext (h:Rl w W d g n S gm M ps cs T) (k:Ext W W'):Rl w W' d g n S gm M ps cs T:=h.turn (But.ofExt k) (h.at_.ext k) h.len
theorem set (h:Rl w W d g n S gm M ps cs T) {j:Nat} {v:Int} {V:List Int} (hw:Hp.wr S.words j v=some V) (h1 : -9223372036854775808 ≤ v) (h2:v ≤ 9223372036854775807):Rl w (W.setCell ⟨g,j,none⟩ (.int .i64 v)) d g n { S with words:=V } gm M ps cs T:=
 h.turn ((But.refl _ _).setCell (.inl (by simp)) _) (h.at_.set hw h1 h2) ((HAt.wr_len hw).1.trans h.len)
theorem mapped (h:Rl w W d g n S gm M ps cs T) {T':List Nat} (k:W.mapTurned W' d.gm) (hm:MapAt Tryz.prog W' d.gm T') (hb:∀ a ∈ T',a < n):Rl w W' d g n { S with taken:=T' } gm M ps cs T:=
 h.turn ((But.refl _ _).turned k (.inl (by simp))) (h.at_.mapped (d:={ d with gw:=g,cap:=n }) k hm (fun a ha=>by rw [h.len];exact hb a ha)) h.len
theorem c2 (h:Rl w W d g n S gm M ps cs T):W.cell? ⟨d.hb,2,none⟩=some (.slice (some ⟨g,0,none⟩) n n):=by
 have:=h.at_.c2
 rw [h.len] at this
 exact this
theorem c3 (h:Rl w W d g n S gm M ps cs T):W.cell? ⟨d.hb,3,none⟩=some (.map (some d.gm)):=h.at_.c3
theorem get (h:Rl w W d g n S gm M ps cs T) {j:Nat} {x:Int} (hx:Hp.rd S.words j=some x):W.cell? ⟨g,j,none⟩=some (.int .i64 x):=h.at_.words.get hx
theorem froz (h:Rl w W d g n S gm M ps cs T) (j:Nat):W.frozen? ⟨g,j,none⟩=false:=h.at_.words.froz j
theorem z1 (h:Rl w W d g n S gm M ps cs T):d.hb < W.heap.size:=h.at_.lt
theorem z2 (h:Rl w W d g n S gm M ps cs T):g < W.heap.size:=h.at_.words.lt
theorem cut {P:Program} {cd:Code} {Q:Exit → Act → World → Prop} {a:Act} (h:Rl w W d g n S gm M ps cs T) (k:∀ w',Rl w w' d g n S gm M ps cs T → cd.wp P Q a w'):cd.wp P Q a W:=k W h
end Rl
def MovePost (w:World) (d:Hd) (M:List (Nat × Int)) (S:Hp.Hs) (e:Ending) (w':World):Prop:=
 ∃ g gm,e = .returned (.map (some gm)) ∧ HAt w' { d with gw:=g,cap:=S.words.length } S ∧ MapIAt Tryz.prog w' gm M ∧ But d.own w w' ∧ w.heap.size ≤ g ∧ w.heap.size ≤ gm ∧ g ≠ gm
theorem Rl.post {w W:World} {d:Hd} {n cs:Nat} {S:Hp.Hs} {M:List (Nat × Int)} {ps:Option Addr} {T:List Nat} {g:Nat} (h:Rl w W d g n S w.heap.size M ps cs T) (hg:w.heap.size+1 ≤ g):MovePost w d M S (.returned (.map (some w.heap.size))) W:=
 ⟨g,w.heap.size,rfl,by rw [h.len];exact h.at_,h.moved,h.but,by omega,Nat.le_refl _,by omega⟩
open Go.RowKit Go.Maps
section
open Go.Sort Go.Shelf
def keysI (M:List (Nat × Int)):List Nat:=M.map fun p=>p.1
end
structure Cp (w W:World) (B:Nat) (own:List Nat) (d:Hd) (S:Hp.Hs) (gm:Nat) (M:List (Nat × Int)) (ps:Option Addr) (cs:Nat):Prop where
 at_:HAt W d S
 but:But own w W
 moved:MapIAt Tryz.prog W gm M
 cells:SliceAt W ps cs (natInts (keysI M))
 b1:∀ b ∈ d.own,b < B
 b2:∀ b o,d.sp=some ⟨b,o,none⟩ → b < B
 b3:∀ b o,d.op=some ⟨b,o,none⟩ → b < B
 b4:gm < B
 b5:∀ b o,ps=some ⟨b,o,none⟩ → 0 < M.length → b < B
 b6:w.heap.size ≤ B
 b7:B ≤ W.heap.size
theorem SliceAt.below_ {w w':World} {p:Option Addr} {c B:Nat} {l:List Int} (h:SliceAt w p c l) (k:Below B w w') (hp:∀ b o,p=some ⟨b,o,none⟩ → 0 < l.length → b < B):SliceAt w' p c l:=by
 refine ⟨h.le,h.cap,h.wf,fun h0=>?_⟩
 obtain ⟨b,o,rfl,hb,hc⟩:=h.cells h0
 exact ⟨b,o,rfl,Nat.lt_of_lt_of_le hb k.size,fun j x hx=>(k.cell (p:=⟨b,o+j,none⟩) (hp b o rfl h0)).trans (hc j x hx)⟩
theorem Cp.below {w W W':World} {B:Nat} {own:List Nat} {d:Hd} {S:Hp.Hs} {gm:Nat} {M:List (Nat × Int)} {ps:Option Addr} {cs:Nat} (h:Cp w W B own d S gm M ps cs) (k:Below B W W'):Cp w W' B own d S gm M ps cs:=
 { at_:=h.at_.below_ k h.b1 h.b2 h.b3
   but:=⟨k.os.trans h.but.os,k.tape.trans h.but.tape,k.output.trans h.but.output,Nat.le_trans h.but.size k.size,fun i hi hn=>(k.block i (Nat.lt_of_lt_of_le hi h.b6)).trans (h.but.block i hi hn)⟩
   moved:=h.moved.ofBlock (k.block _ h.b4)
   cells:=h.cells.below_ k (fun b o e h0=>h.b5 b o e (by simpa [natInts,keysI] using h0))
   b1:=h.b1
   b2:=h.b2
   b3:=h.b3
   b4:=h.b4
   b5:=h.b5
   b6:=h.b6
   b7:=Nat.le_trans h.b7 k.size }
open Go.RowKit
namespace Hp
structure Act' where
 kind:Int
 a:Int
 list:List Int
 fault:Int
 n:Int
structure Sc where
 S:Hs
 res:List Int
 ats:List Int
end Hp
structure ScAt (w0 w:World) (sb:Nat) (d:Hd) (s:Hp.Sc) (p1:Option Addr) (k1:Nat) (p2:Option Addr) (k2:Nat):Prop extends HAt w d s.S where
 ext0:Ext w0 w
 h0:w.cell? ⟨sb,0,none⟩=some (.pointer (some ⟨d.hb,0,none⟩))
 h1:w.cell? ⟨sb,1,none⟩=some (.slice p1 s.res.length k1)
 h2:w.cell? ⟨sb,2,none⟩=some (.slice p2 s.ats.length k2)
 fz:∀ k,w.frozen? ⟨sb,k,none⟩=false
 r1:Row w 0 p1 k1 s.res
 r2:Row w 0 p2 k2 s.ats
 sb0:w0.heap.size ≤ sb
 own0:∀ b ∈ d.own,w0.heap.size ≤ b
 sbn:sb ∉ d.own
 n1:∀ b o,p1=some ⟨b,o,none⟩ → w0.heap.size ≤ b ∧ b ∉ d.own ∧ b ≠ sb
 n2:∀ b o,p2=some ⟨b,o,none⟩ → w0.heap.size ≤ b ∧ b ∉ d.own ∧ b ≠ sb
 n12:∀ b o b' o',p1=some ⟨b,o,none⟩ → p2=some ⟨b',o',none⟩ → b ≠ b'
 spn:∀ b o,d.sp=some ⟨b,o,none⟩ → b ≠ sb ∧ (∀ o',p1 ≠ some ⟨b,o',none⟩) ∧ ∀ o',p2 ≠ some ⟨b,o',none⟩
 opn:∀ b o,d.op=some ⟨b,o,none⟩ → b ≠ sb ∧ (∀ o',p1 ≠ some ⟨b,o',none⟩) ∧ ∀ o',p2 ≠ some ⟨b,o',none⟩
theorem Row.but_ {w w':World} {base c:Nat} {p:Option Addr} {l:List Int} (h:Row w base p c l) {bs:List Nat} (k:But bs w w') (hb:∀ b o,p=some ⟨b,o,none⟩ → b ∉ bs):Row w' base p c l:=by
 refine ⟨⟨h.1.1, ?_⟩,h.2⟩
 rcases h.1.2 with e | ⟨g,cap,cur,e,h1,hg,r⟩
 · exact .inl e
 · refine .inr ⟨g,cap,cur,e,h1, ?_,r⟩;have hl:=(Array.getElem?_eq_some_iff.1 hg).1;injection e with e1
   rw [k.block g hl (hb g 0 e1)];exact hg
namespace ScAt
variable {w0 w w':World} {sb:Nat} {d:Hd} {s:Hp.Sc} {p1 p2:Option Addr} {k1 k2:Nat}
theorem lt1 (h:ScAt w0 w sb d s p1 k1 p2 k2):sb < w.heap.size:=cell_lt h.h0
theorem ext (h:ScAt w0 w sb d s p1 k1 p2 k2) (k:Ext w w'):ScAt w0 w' sb d s p1 k1 p2 k2:=
 { h with
   toHAt:=h.toHAt.ext k
   ext0:=h.ext0.trans k
   h0:=(k.cell h.lt1 0).trans h.h0
   h1:=(k.cell h.lt1 1).trans h.h1
   h2:=(k.cell h.lt1 2).trans h.h2
   fz:=fun j=>(k.frozen h.lt1 j).trans (h.fz j)
   r1:=h.r1.ext k
   r2:=h.r2.ext k }
theorem turn (h:ScAt w0 w sb d s p1 k1 p2 k2) {S':Hp.Hs} {g cap:Nat} (k:But d.own w w') (h':HAt w' { d with gw:=g,cap:=cap } S') (hg:g=d.gw ∨ w.heap.size ≤ g):ScAt w0 w' sb { d with gw:=g,cap:=cap } { s with S:=S' } p1 k1 p2 k2:=by
 have hl:=h.lt1
 have hlt:∀ b o,(p1=some ⟨b,o,none⟩ → b < w.heap.size) ∧ (p2=some ⟨b,o,none⟩ → b < w.heap.size):=fun b o=>⟨fun e=>by
  rcases h.r1.1.2 with ⟨e',_⟩ | ⟨g',_,_,e',_,hg',_⟩
  · injection e' with e1
    rw [e] at e1
    cases e1
  · injection e' with e1
    rw [e] at e1
    cases e1
    exact (Array.getElem?_eq_some_iff.1 hg').1,fun e=>by
  rcases h.r2.1.2 with ⟨e',_⟩ | ⟨g',_,_,e',_,hg',_⟩
  · injection e' with e1
    rw [e] at e1
    cases e1
  · injection e' with e1
    rw [e] at e1
    cases e1
    exact (Array.getElem?_eq_some_iff.1 hg').1⟩
 have own:∀ b,b ∈ Hd.own { d with gw:=g,cap:=cap } → b ∈ d.own ∨ b=g:=fun b hb=>by
  simp only [Hd.own,List.mem_cons,List.not_mem_nil,or_false] at hb ⊢
  rcases hb with rfl | rfl | rfl
  · exact .inl (.inl rfl)
  · exact .inr rfl
  · exact .inl (.inr (.inr rfl))
 have fresh:∀ b,b < w.heap.size → b ∉ d.own → b ∉ Hd.own { d with gw:=g,cap:=cap }:=fun b hb hn hm=>by
  rcases own b hm with h1 | rfl
  · exact hn h1
  · rcases hg with rfl | hg
    · exact hn d.gw_own
    · omega
 have e0:=h.ext0.le
 exact
 { toHAt:=h'
   ext0:=But.toExt h.ext0 k h.own0
   h0:=(k.cell hl h.sbn 0).trans h.h0
   h1:=(k.cell hl h.sbn 1).trans h.h1
   h2:=(k.cell hl h.sbn 2).trans h.h2
   fz:=fun j=>(k.frozen hl h.sbn j).trans (h.fz j)
   r1:=h.r1.but_ k (fun b o e=>(h.n1 b o e).2.1)
   r2:=h.r2.but_ k (fun b o e=>(h.n2 b o e).2.1)
   sb0:=h.sb0
   own0:=fun b hb=>by
    rcases own b hb with h1 | rfl
    · exact h.own0 b h1
    · rcases hg with rfl | hg
      · exact h.own0 _ d.gw_own
      · omega
   sbn:=fresh _ hl h.sbn
   n1:=fun b o e=>⟨(h.n1 b o e).1,fresh _ ((hlt b o).1 e) (h.n1 b o e).2.1,(h.n1 b o e).2.2⟩
   n2:=fun b o e=>⟨(h.n2 b o e).1,fresh _ ((hlt b o).2 e) (h.n2 b o e).2.1,(h.n2 b o e).2.2⟩
   n12:=h.n12
   spn:=h.spn
   opn:=h.opn }
end ScAt
open Go.RowKit
theorem Ext.grown {w0 w w':World} {row:Option Nat} (h:Ext w0 w) (k:w.grownBy w' row) (hr:∀ r,row=some r → w0.heap.size ≤ r):Ext w0 w':=
 ⟨k.os.trans h.os,k.tape.trans h.tape,k.output.trans h.output,Nat.le_trans h.le k.size,fun i hi=>(k.block i (Nat.lt_of_lt_of_le hi h.le) (fun e=>by have:=hr i e.symm;omega)).trans (h.block i hi)⟩
open Go.RowKit Go.Maps
theorem Row.set {w:World} {base c b j:Nat} {p:Option Addr} {l l':List Int} {v:Int} (h:Row w base p c l) (hp:p=some ⟨b,0,none⟩) (hw:Hp.wr l j v=some l') (h1 : -9223372036854775808 ≤ v) (h2:v ≤ 9223372036854775807) :
    Row (w.setCell ⟨b,j,none⟩ (.int .i64 v)) base p c l':=by
  have hl:=(HAt.wr_len hw).1;have hj:=(HAt.wr_len hw).2;unfold Hp.wr at hw;rw [if_pos hj] at hw
  cases hw
  refine ⟨⟨by simp [ints], ?_⟩,fun x hx=>?_⟩
  · rcases h.1.2 with ⟨e,_⟩ | ⟨g,cap,cur,e,hb,hg,r1,r2,r3,r4⟩
    · injection e with e1
      rw [hp] at e1
      cases e1
    · injection e with e1 e2 e3
      rw [hp] at e1
      cases e1
      subst e3;refine .inr ⟨b,c,cur.setIfInBounds j (.int .i64 v),by rw [hp,hl],hb, ?_,by rw [hl];exact r1,r2,by simpa using r3, ?_⟩
      · rw [setCell_eq_setRow w b j cur _ _ _ hg,setRow_heap w b _ _ _ _ hg]
      · rw [hl];simp only [Array.toList_setIfInBounds,ints,List.map_set,List.take_set];rw [r4];rfl
  · rcases List.mem_or_eq_of_mem_set hx with hx | rfl
    · exact h.2 x hx
    · exact ⟨h1,h2⟩
theorem Row.ptr {w:World} {base c:Nat} {p:Option Addr} {l:List Int} (h:Row w base p c l) (h0:0 < l.length):∃ b,p=some ⟨b,0,none⟩ ∧ b < w.heap.size:=by
 rcases h.1.2 with ⟨e,hz⟩ | ⟨g,cap,cur,e,hb,hg,_⟩
 · omega
 · injection e with e1
   exact ⟨g,e1,(Array.getElem?_eq_some_iff.1 hg).1⟩
theorem ScAt.cut {w0 W:World} {sb:Nat} {d:Hd} {s:Hp.Sc} {p1 p2:Option Addr} {k1 k2:Nat} {P:Program} {cd:Code} {Q:Exit → Act → World → Prop} {a:Act} (h:ScAt w0 W sb d s p1 k1 p2 k2) (k:∀ w',ScAt w0 w' sb d s p1 k1 p2 k2 → cd.wp P Q a w'):cd.wp P Q a W:=k W h
section
variable {P:Program} {ops:Array Oper} {Q:Exit → Act → World → Prop} {md:Region.Mode} {S:World → Prop} {n G:Nat}
theorem wpAnyX_fork {f:Nat} {listed:Array Bool} {a:Act} {w:World} (is:List Nat) (hr:Region.ready md ops listed=is) (h0:is ≠ []) (hn:∀ i ∈ is,i < n)
    (h:∀ i ∈ is,wpOp P ops Q i (fun a' w''=>S w'' ∧ wpAnyX P md ops Q S Eq n G f (listed.setIfInBounds i true) a' w'') a w):wpAnyX P md ops Q S Eq n G (f+1) listed a w:=by
  intro w' e _;subst e;subst hr;exact ⟨h0,fun i hi=>⟨hn i hi,h i hi⟩⟩
theorem wpOp_value {i:Nat} {oi:Oper} {v:Value} {K:Act → World → Prop} {a:Act} {w w'':World} (hi:ops[i]? = some oi) (hw:Region.wanted oi (yielded ops a.tmps)=true)
    (hrun:(execOp a.eval oi).run P w = .ok (.value v) w'') (hk:K (a.put oi.dst v) w''):wpOp P ops Q i K a w:=by
  unfold wpOp;simp only [hi];rw [if_pos hw];refine .inl ?_;unfold Oper.wp;rw [hrun];exact hk
end
theorem row_own {w:World} {base c:Nat} {p:Option Addr} {l:List Int} (hrow:Row w base p c l):∀ r,(Value.slice p l.length c).ownBlock=some r → p=some ⟨r,0,none⟩:=fun r hr=>by
 cases p with
 | none=>simp [Value.ownBlock] at hr
 | some q=>
  have hr':q.block=r:=by simpa [Value.ownBlock] using hr
  subst hr'
  rcases hrow.1.2 with ⟨e,_⟩ | ⟨g',cap',cur,e,h1,_⟩
  · injection e with e1
    cases e1
  · injection e with e1
    rw [Option.some.inj e1]
structure ScB (w0 w:World) (sb:Nat) (d:Hd) (S:Hp.Hs) (v1 v2:Value) (p1:Option Addr) (k1:Nat) (res:List Int) (p2:Option Addr) (k2:Nat) (ats:List Int):Prop extends HAt w d S where
 ext0:Ext w0 w
 h0:w.cell? ⟨sb,0,none⟩=some (.pointer (some ⟨d.hb,0,none⟩))
 h1:w.cell? ⟨sb,1,none⟩=some v1
 h2:w.cell? ⟨sb,2,none⟩=some v2
 fz:∀ k,w.frozen? ⟨sb,k,none⟩=false
 r1:Row w 0 p1 k1 res
 r2:Row w 0 p2 k2 ats
 sb0:w0.heap.size ≤ sb
 own0:∀ b ∈ d.own,w0.heap.size ≤ b
 sbn:sb ∉ d.own
 n1:∀ b o,p1=some ⟨b,o,none⟩ → w0.heap.size ≤ b ∧ b ∉ d.own ∧ b ≠ sb
 n2:∀ b o,p2=some ⟨b,o,none⟩ → w0.heap.size ≤ b ∧ b ∉ d.own ∧ b ≠ sb
 n12:∀ b o b' o',p1=some ⟨b,o,none⟩ → p2=some ⟨b',o',none⟩ → b ≠ b'
 spn:∀ b o,d.sp=some ⟨b,o,none⟩ → b ≠ sb ∧ (∀ o',p1 ≠ some ⟨b,o',none⟩) ∧ ∀ o',p2 ≠ some ⟨b,o',none⟩
 opn:∀ b o,d.op=some ⟨b,o,none⟩ → b ≠ sb ∧ (∀ o',p1 ≠ some ⟨b,o',none⟩) ∧ ∀ o',p2 ≠ some ⟨b,o',none⟩
namespace ScB
variable {w0 w w':World} {sb:Nat} {d:Hd} {S:Hp.Hs} {v1 v2:Value} {p1 p2:Option Addr} {k1 k2:Nat} {res ats:List Int}
theorem lt1 (h:ScB w0 w sb d S v1 v2 p1 k1 res p2 k2 ats):sb < w.heap.size:=cell_lt h.h0
theorem ext (h:ScB w0 w sb d S v1 v2 p1 k1 res p2 k2 ats) (k:Ext w w'):ScB w0 w' sb d S v1 v2 p1 k1 res p2 k2 ats:=
 { h with
   toHAt:=h.toHAt.ext k
   ext0:=h.ext0.trans k
   h0:=(k.cell h.lt1 0).trans h.h0
   h1:=(k.cell h.lt1 1).trans h.h1
   h2:=(k.cell h.lt1 2).trans h.h2
   fz:=fun j=>(k.frozen h.lt1 j).trans (h.fz j)
   r1:=h.r1.ext k
   r2:=h.r2.ext k }
theorem rlt {c:Nat} {p:Option Addr} {l:List Int} (h:Row w 0 p c l) {b o:Nat} (e:p=some ⟨b,o,none⟩):b < w.heap.size:=by
 rcases h.1.2 with ⟨e',_⟩ | ⟨g',_,_,e',_,hg',_⟩
 · injection e' with e1
   rw [e] at e1
   cases e1
 · injection e' with e1
   rw [e] at e1
   cases e1
   exact (Array.getElem?_eq_some_iff.1 hg').1
theorem grow1 (h:ScB w0 w sb d S v1 v2 p1 k1 res p2 k2 ats) {g cap:Nat} {row:Option Nat} {res':List Int} (hR:Row w' 0 (some ⟨g,0,none⟩) cap res') (hG:w.grownBy w' row) (hrow:∀ r,row=some r → p1=some ⟨r,0,none⟩) (hg:p1=some ⟨g,0,none⟩ ∨ g=w.heap.size) :
    ScB w0 w' sb d S v1 v2 (some ⟨g,0,none⟩) cap res' p2 k2 ats:=by
  have kb:But row.toList w w':=⟨hG.os,hG.tape,hG.output,hG.size,fun i hi hn=>hG.block i hi (fun e=>hn (by rw [← e];simp))⟩
  have far:∀ b,(∀ r,p1=some ⟨r,0,none⟩ → b ≠ r) → b ∉ row.toList:=fun b hb hm=>by
   have e:row=some b:=by simpa using hm
   exact hb b (hrow b e) rfl
  have own:∀ b ∈ d.own,b ∉ row.toList:=fun b hb=>far b fun r e er=>(h.n1 r 0 e).2.1 (er ▸ hb)
  have sbf:sb ∉ row.toList:=far sb fun r e er=>(h.n1 r 0 e).2.2 er.symm
  have e0:=h.ext0.le;have l1:=h.lt1;have og:=h.toHAt.own_lt;have new:w0.heap.size ≤ g ∧ g ∉ d.own ∧ g ≠ sb:=by
   rcases hg with e | rfl
   · exact h.n1 g 0 e
   · exact ⟨e0,fun hm=>by have:=og _ hm;omega,by omega⟩
  exact
  { toHAt:=h.toHAt.but kb (own _ d.hb_own) (own _ d.gw_own) (own _ d.gm_own) (fun b o e=>far b fun r er e2=>(h.spn b o e).2.1 0 (e2 ▸ er)) (fun b o e=>far b fun r er e2=>(h.opn b o e).2.1 0 (e2 ▸ er))
    ext0:=h.ext0.grown hG (fun r e=>(h.n1 r 0 (hrow r e)).1)
    h0:=(kb.cell l1 sbf 0).trans h.h0
    h1:=(kb.cell l1 sbf 1).trans h.h1
    h2:=(kb.cell l1 sbf 2).trans h.h2
    fz:=fun j=>(kb.frozen l1 sbf j).trans (h.fz j)
    r1:=hR
    r2:=h.r2.but_ kb (fun b o e=>far b fun r er e2=>h.n12 r 0 b o er e e2.symm)
    sb0:=h.sb0
    own0:=h.own0
    sbn:=h.sbn
    n1:=fun b o e=>by cases e;exact new
    n2:=h.n2
    n12:=fun b o b' o' e e'=>by
     cases e
     rcases hg with hg | rfl
     · exact h.n12 g 0 b' o' hg e'
     · have:=rlt h.r2 e';omega
    spn:=fun b o e=>⟨(h.spn b o e).1,fun o' e'=>by
     cases e'
     rcases hg with hg | rfl
     · exact (h.spn g o e).2.1 0 hg
     · have:=h.old1 _ o e;omega,(h.spn b o e).2.2⟩
    opn:=fun b o e=>⟨(h.opn b o e).1,fun o' e'=>by
     cases e'
     rcases hg with hg | rfl
     · exact (h.opn g o e).2.1 0 hg
     · have:=h.old2 _ o e;omega,(h.opn b o e).2.2⟩ }
theorem grow2 (h:ScB w0 w sb d S v1 v2 p1 k1 res p2 k2 ats) {g cap:Nat} {row:Option Nat} {ats':List Int} (hR:Row w' 0 (some ⟨g,0,none⟩) cap ats') (hG:w.grownBy w' row) (hrow:∀ r,row=some r → p2=some ⟨r,0,none⟩) (hg:p2=some ⟨g,0,none⟩ ∨ g=w.heap.size) :
    ScB w0 w' sb d S v1 v2 p1 k1 res (some ⟨g,0,none⟩) cap ats':=by
  have kb:But row.toList w w':=⟨hG.os,hG.tape,hG.output,hG.size,fun i hi hn=>hG.block i hi (fun e=>hn (by rw [← e];simp))⟩
  have far:∀ b,(∀ r,p2=some ⟨r,0,none⟩ → b ≠ r) → b ∉ row.toList:=fun b hb hm=>by
   have e:row=some b:=by simpa using hm
   exact hb b (hrow b e) rfl
  have own:∀ b ∈ d.own,b ∉ row.toList:=fun b hb=>far b fun r e er=>(h.n2 r 0 e).2.1 (er ▸ hb)
  have sbf:sb ∉ row.toList:=far sb fun r e er=>(h.n2 r 0 e).2.2 er.symm
  have e0:=h.ext0.le;have l1:=h.lt1;have og:=h.toHAt.own_lt;have new:w0.heap.size ≤ g ∧ g ∉ d.own ∧ g ≠ sb:=by
   rcases hg with e | rfl
   · exact h.n2 g 0 e
   · exact ⟨e0,fun hm=>by have:=og _ hm;omega,by omega⟩
  exact
  { toHAt:=h.toHAt.but kb (own _ d.hb_own) (own _ d.gw_own) (own _ d.gm_own) (fun b o e=>far b fun r er e2=>(h.spn b o e).2.2 0 (e2 ▸ er)) (fun b o e=>far b fun r er e2=>(h.opn b o e).2.2 0 (e2 ▸ er))
    ext0:=h.ext0.grown hG (fun r e=>(h.n2 r 0 (hrow r e)).1)
    h0:=(kb.cell l1 sbf 0).trans h.h0
    h1:=(kb.cell l1 sbf 1).trans h.h1
    h2:=(kb.cell l1 sbf 2).trans h.h2
    fz:=fun j=>(kb.frozen l1 sbf j).trans (h.fz j)
    r1:=h.r1.but_ kb (fun b o e=>far b fun r er e2=>h.n12 b o r 0 e er e2)
    r2:=hR
    sb0:=h.sb0
    own0:=h.own0
    sbn:=h.sbn
    n1:=h.n1
    n2:=fun b o e=>by cases e;exact new
    n12:=fun b o b' o' e e'=>by
     cases e'
     rcases hg with hg | rfl
     · exact h.n12 b o g 0 e hg
     · have:=rlt h.r1 e;omega
    spn:=fun b o e=>⟨(h.spn b o e).1,(h.spn b o e).2.1,fun o' e'=>by
     cases e'
     rcases hg with hg | rfl
     · exact (h.spn g o e).2.2 0 hg
     · have:=h.old1 _ o e;omega⟩
    opn:=fun b o e=>⟨(h.opn b o e).1,(h.opn b o e).2.1,fun o' e'=>by
     cases e'
     rcases hg with hg | rfl
     · exact (h.opn g o e).2.2 0 hg
     · have:=h.old2 _ o e;omega⟩ }
end ScB
open Go.RowKit Go.Maps
end Go.Proofs.YtdokmmhjmclmnaaGreat
