/-
  Part 8 of a proof: HFn23 HFn24.
-/
import Derived.Deep.OwnRows
import Derived.Test.YtdokmmhjmclmnaaGreatMN07
set_option linter.unusedSimpArgs false
set_option linter.unusedVariables false
set_option linter.unusedSectionVars false
set_option linter.unnecessarySimpa false
namespace Go.Proofs.YtdokmmhjmclmnaaGreat
namespace Hp
def insI (x:Int):List Int → List Int
 | []=>[x]
 | y :: r=>if x ≤ y then x :: y :: r else y :: insI x r
def sortI:List Int → List Int
 | []=>[]
 | x :: r=>insI x (sortI r)
def upto (n:Nat):List Int:=(List.range n).map fun x:Nat=>(x:Int)
def frameErr (sizes order:List Int):Int:=
 if sizes.length > 6 then 5 else
 if sizes.all (fun n=>decide (1 ≤ n) && decide (n ≤ 12))=false then 3 else
 if sizes.foldl (· * ·) 1 > 2000 then 5 else
 if sortI order=upto sizes.length then 0 else 4
def newErr (sizes order:List Int) (words:Int):Int:=
 if frameErr sizes order ≠ 0 then frameErr sizes order else if within 32 40000 words then 0 else 3
end Hp
open Go.RowKit Go.Maps Go.Sort Go.Shelf
theorem perm_insI (x:Int):∀ l:List Int,(Hp.insI x l).Perm (x :: l)
 | []=>List.Perm.refl _
 | y :: r=>by
  unfold Hp.insI
  split
  · exact List.Perm.refl _
  · exact ((perm_insI x r).cons y).trans (List.Perm.swap x y r)
theorem perm_sortI:∀ l:List Int,(Hp.sortI l).Perm l
 | []=>List.Perm.refl _
 | x :: r=>(perm_insI x _).trans ((perm_sortI r).cons x)
theorem sorted_insI (x:Int):∀ {l:List Int},l.Pairwise (· ≤ ·) → (Hp.insI x l).Pairwise (· ≤ ·)
 | [],_=>by simp [Hp.insI]
 | y :: r,h=>by
  obtain ⟨h1,h2⟩:=List.pairwise_cons.1 h;unfold Hp.insI
  split
  · rename_i hxy;refine List.pairwise_cons.2 ⟨fun z hz=>?_,h⟩
    rcases List.mem_cons.1 hz with rfl | hz
    · exact hxy
    · exact Int.le_trans hxy (h1 z hz)
  · rename_i hxy;refine List.pairwise_cons.2 ⟨fun z hz=>?_,sorted_insI x h2⟩
    rcases List.mem_cons.1 ((perm_insI x r).mem_iff.1 hz) with rfl | hz
    · omega
    · exact h1 z hz
theorem sorted_sortI:∀ l:List Int,(Hp.sortI l).Pairwise (· ≤ ·)
 | []=>List.Pairwise.nil
 | x :: r=>sorted_insI x (sorted_sortI r)
theorem mergeSort_eq (l:List Int):l.mergeSort (fun x y=>decide (x ≤ y))=Hp.sortI l:=by
 refine List.Perm.eq_of_pairwise (le:=fun a b:Int=>a ≤ b) (fun a b _ _ h1 h2=>by omega) ?_ (sorted_sortI l) ((List.mergeSort_perm _ _).trans (perm_sortI l).symm)
 have:=List.pairwise_mergeSort (le:=fun x y:Int=>decide (x ≤ y)) (fun a b c h1 h2=>by simp at *;omega) (fun a b=>by simp;omega) l
 exact this.imp fun h=>by simpa using h
theorem sortI_length (l:List Int):(Hp.sortI l).length=l.length:=(perm_sortI l).length_eq
def SortPost (w:World) (base:Nat) (p:Option Addr) (c:Nat) (l:List Int) (e:Ending) (w':World):Prop:=e = .returned (.tuple #[]) ∧ Row w' base p c (Hp.sortI l) ∧ ∃ row,w.grownBy w' row ∧ ∀ r,row=some r → base ≤ r
theorem sSort_any {w:World} {base c:Nat} {p:Option Addr} {l:List Int} (h:Row w base p c l) (hlen:l.length ≤ 1000000):Calls Tryz.prog 163 #[.slice p l.length c] w (SortPost w base p c l):=by
 rcases h.1.2 with ⟨e,hz⟩ | ⟨g,cap,cur,e,h1,hg,r1,r2,r3,r4⟩
 · injection e with e1 e2 e3
   have:l=[]:=List.eq_nil_of_length_eq_zero hz;subst this;subst e1;refine (AnyM.slices_Sort_int_none Tryz.sortA none c w).mono ?_;rintro e w' ⟨rfl,rfl⟩;exact ⟨rfl,by simpa [Hp.sortI] using h,none,World.grownBy.refl _ _,fun r hr=>by cases hr⟩
 · injection e with e1 e2 e3
   subst e1 e3;have hH:Holds encZ w g 0 l.toArray:=holds_of_block_i hg (by simpa [ints,encZ] using r4);have hgl:g < w.heap.size:=(Array.getElem?_eq_some_iff.1 hg).1;refine (AnyM.slices_Sort_int Tryz.sortA g 0 c l w hH hgl (by omega)).mono ?_;rintro e w' ⟨rfl,n,os,rfl⟩;rw [mergeSort_eq];refine ⟨rfl,⟨?_,fun x hx=>h.2 x ((perm_sortI l).mem_iff.1 hx)⟩,some g,grownBy_sorted_i _,fun r hr=>by cases hr;exact h1⟩;have:=ownsRow_sorted_i (n:=n) (os:=os) (sortI_length l) h1 hg r1 r2 r3;rw [sortI_length]
   simpa [ints,encZ] using this
theorem nWithin1_any {w:World} {b1 b2:Nat} {least most n:Int} (h1:w.cell? ⟨b1,0,none⟩=some (.int .i64 least)) (h2:w.cell? ⟨b2,0,none⟩=some (.int .i64 most)) :
    Calls Tryz.prog 185 #[.int .i64 n,.pointer (some ⟨b1,0,none⟩),.pointer (some ⟨b2,0,none⟩)] w fun e w'=>e = .returned (.bool (!(decide (least ≤ n) && decide (n ≤ most)))) ∧ Ext w w':=by
  by_cases c1:n < least
  · have e:(!(decide (least ≤ n) && decide (n ≤ most)))=true:=by simp;omega
    rw [e];clear e;go_enter Tryz.func185,Tryz.ntmps185;go_wp2
    all_goals go_returns
    exact ⟨rfl,exx⟩
  · by_cases c2:n > most
    · have e:(!(decide (least ≤ n) && decide (n ≤ most)))=true:=by simp;omega
      rw [e];clear e;have c3:decide (n < least)=false:=by simpa using c1
      go_enter Tryz.func185,Tryz.ntmps185;go_wp2
      all_goals go_returns
      exact ⟨rfl,exx⟩
    · have e:(!(decide (least ≤ n) && decide (n ≤ most)))=false:=by simp;omega
      rw [e];clear e;have c3:decide (n < least)=false:=by simpa using c1
      have c4:decide (n > most)=false:=by simpa using c2
      go_enter Tryz.func185,Tryz.ntmps185;go_wp2
      all_goals go_returns
      exact ⟨rfl,exx⟩
theorem nWithin_any {w:World} {p:Option Addr} {c:Nat} {least most:Int} {l:List Int} {b:Bool} (h:SliceAt w p c l) (hb:l.all (fun n=>decide (least ≤ n) && decide (n ≤ most))=b) :
    Calls Tryz.prog 165 #[.int .i64 least,.int .i64 most,.slice p l.length c] w fun e w'=>e = .returned (.bool b) ∧ Ext w w':=by
  rw [all_any] at hb;have key:∀ t1 t2,Says ((w.alloc (.cells #[.int .i64 least] t1)).alloc (.cells #[.int .i64 most] t2)) 185 #[] #[.pointer (some ⟨w.heap.size,0,none⟩),.pointer (some ⟨w.heap.size+1,0,none⟩)] l (fun n=>!(decide (least ≤ n) && decide (n ≤ most))):=by
   intro t1 t2 j x hx _ W hW;have g1:W.cell? ⟨w.heap.size,0,none⟩=some (.int .i64 least):=by
    rw [hW.cell (by simp;omega) 0];go_simp
   have g2:W.cell? ⟨w.heap.size+1,0,none⟩=some (.int .i64 most):=by
    rw [hW.cell (by simp) 0];go_simp
   have:=nWithin1_any (n:=x) g1 g2
   simpa using this
  have H:=Lib.hid h;have K:=Lib.hid key;generalize hq:(l.any fun x=>!(decide (least ≤ x) && decide (x ≤ most)))=b0 at hb;have HQ:=Lib.hid hq;clear h key hq;subst hb;go_enter Tryz.func165,Tryz.ntmps165
  go_wp2_with (go_at_call 167;refine (sContainsFunc_any (enters_of Tryz.func185 (by kernel_rfl) rfl) (H.out.ext (exx)) (K.out _ _) HQ.out).mono ?_;rintro e w1 ⟨rfl,hb1⟩;obtain ⟨hc1,hf1,hs1⟩:=hb1.cells)
  go_returns;exact ⟨rfl,exx⟩
open Go.RowKit Go.Maps
def filled (n j:Nat):List Int:=Hp.upto j ++ List.replicate (n-j) 0
theorem filled_len {n j:Nat} (h:j ≤ n):(filled n j).length=n:=by simp [filled,Hp.upto];omega
theorem filled_step {n j:Nat} (h:j < n):Hp.wr (filled n j) j (j:Int)=some (filled n (j+1)):=by
 unfold Hp.wr
 rw [if_pos (by rw [filled_len (by omega)];exact h)]
 congr 1
 unfold filled
 rw [List.set_append_right _ _ (by simp [Hp.upto])]
 have e1:j-(Hp.upto j).length=0:=by simp [Hp.upto]
 rw [e1,show n-j=(n-(j+1))+1 by omega,List.replicate_succ,List.set_cons_zero]
 unfold Hp.upto
 rw [List.range_succ,List.map_append]
 simp
theorem filled_full (n:Nat):filled n n=Hp.upto n:=by simp [filled]
def NumPost (w:World) (n:Nat) (e:Ending) (w':World):Prop:=∃ g,e = .returned (.slice (some ⟨g,0,none⟩) n n) ∧ SliceAt w' (some ⟨g,0,none⟩) n (Hp.upto n) ∧ Ext w w'
theorem made_words (w:World) (n:Nat):WordsAt (w.alloc (.cells (madeCells #[.int .i64 0] n) 3)) w.heap.size (List.replicate n 0):=by
 refine ⟨⟨[], ?_⟩,fun x hx=>by rw [List.eq_of_mem_replicate hx];omega⟩
 rw [heap_new]
 congr 2
 apply Array.ext
 · simp [ints,size_madeCells]
 · intro i h1 h2;have hi:i < n:=by simpa [size_madeCells] using h1
   simp [madeCells,ints,hi,Nat.mod_one]
set_option maxHeartbeats 2000000 in
theorem numbers_any {w:World} {n:Nat} (hn:n ≤ 1000):Calls Tryz.prog 166 #[.int .i64 n] w (NumPost w n):=by
 have hmk:=run_make_row' (P:=Tryz.prog) 22 3 (.int .i64 0) 8 Tryz.underlying22 (show (Tryz.prog.info? 3).map (fun i=>(i.zero,i.size,i.bytes))=some (some (.int .i64 0),1,8) from by kernel_rfl) rfl .i64 .i64 n (by omega) (by omega)
 go_enter Tryz.func166,Tryz.ntmps166
 go_wp2_with fail
 clear hmk
 have W0:=Lib.hid (show WordsAt (w.alloc (.cells (madeCells #[.int .i64 0] n) 3)) w.heap.size (filled n 0) by simpa [filled,Hp.upto] using made_words w n)
 have E0:Ext w (w.alloc (.cells (madeCells #[.int .i64 0] n) 3)):=exx
 generalize (w.alloc (.cells (madeCells #[.int .i64 0] n) 3))=w1 at W0 E0 ⊢
 have E0':=Lib.hid E0
 clear E0
 go_loopg [8] n (fun g i wr=>∃ j:Nat,j ≤ n ∧ n-j ≤ g ∧ i = .int .i64 j ∧ Hid (WordsAt wr w.heap.size (filled n j)) ∧ Hid (Ext w wr))
 case atStart=>exact ⟨0,Nat.zero_le _,by omega,rfl,W0,E0'⟩
 case round=>
  obtain ⟨j,hj,hg,rfl,W,E⟩:=hrel;clear W0 E0'
  by_cases hlt:j < n
  · obtain ⟨y,hy⟩:=rd_get (l:=filled n j) (j:=j) (by rw [filled_len hj];exact hlt);have g1:=W.out.get hy;have f1:=W.out.froz j;have W1:=Lib.hid (W.out.set (filled_step hlt) (by omega) (by omega));have E1:=Lib.hid (Ext.setCell E.out (p:=⟨w.heap.size,j,none⟩) (Nat.le_refl _) (.int .i64 j));clear hy
    go_wp2_with fail
    go_roundg (n-(j+1))
    case measure=>omega
    case rel=>exact ⟨j+1,by omega,Nat.le_refl _,by go_num,W1,E1⟩
  · have:j=n:=by omega
    subst this
    go_wp2_with fail
    go_returns;have h1:=W.out;rw [filled_full] at h1;have hl:(Hp.upto j).length=j:=by simp [Hp.upto]
    exact ⟨w.heap.size,rfl,⟨by rw [hl];exact Nat.le_refl _,by omega,h1.wf,fun _=>⟨w.heap.size,0,rfl,h1.lt,fun i x hx=>by rw [Nat.zero_add];exact h1.get hx⟩⟩,E.out⟩
theorem upto_length (n:Nat):(Hp.upto n).length=n:=by simp [Hp.upto]
theorem ext_grow {w0 w w':World} {row:Option Nat} (h:Ext w0 w) (k:w.grownBy w' row) (hr:∀ g,row=some g → w0.heap.size ≤ g):Ext w0 w':=
 But.toExt (Ext.refl w0) (but_grow (But.ofExt (l:=[]) h) k hr) (by simp)
def prodI (l:List Int):Int:=l.foldl (· * ·) 1
theorem prodI_snoc (l:List Int) (x:Int):prodI (l ++ [x])=prodI l * x:=by simp [prodI,List.foldl_append]
theorem take_snocI {l:List Int} {j:Nat} {x:Int} (h:Hp.rd l j=some x):l.take (j+1)=l.take j ++ [x]:=by
 obtain ⟨hl,rfl⟩:=List.getElem?_eq_some_iff.1 h
 exact List.take_succ_eq_append_getElem hl
theorem pow12 {j:Nat} (h:j ≤ 6):(12:Int) ^ j ≤ 2985984:=by
 have hh:j=0 ∨ j=1 ∨ j=2 ∨ j=3 ∨ j=4 ∨ j=5 ∨ j=6:=by omega
 rcases hh with rfl | rfl | rfl | rfl | rfl | rfl | rfl <;> decide
set_option maxRecDepth 100000 in
set_option maxHeartbeats 4000000 in
theorem frame_any {w:World} {p q:Option Addr} {c d:Nat} {sizes order:List Int} (hs:SliceAt w p c sizes) (ho:SliceAt w q d order) (hq:0 < order.length ∨ q=none) (hol:order.length ≤ 1000000) :
    Calls Tryz.prog 121 #[.slice p sizes.length c,.slice q order.length d] w fun e w'=>e = .returned (.int .i64 (Hp.frameErr sizes order)) ∧ Ext w w':=by
  have HS:=Lib.hid hs;have HO:=Lib.hid ho;have hsc:=hs.le;have hscc:=hs.cap;clear hs ho
  by_cases h6:sizes.length > 6
  · have e:Hp.frameErr sizes order=5:=by unfold Hp.frameErr;rw [if_pos h6]
    rw [e];clear e;go_enter Tryz.func121,Tryz.ntmps121
    go_wp2_with fail
    go_returns;exact ⟨rfl,exx⟩
  · cases hall:sizes.all (fun n=>decide (1 ≤ n) && decide (n ≤ 12)) with
    | false=>
     have e:Hp.frameErr sizes order=3:=by unfold Hp.frameErr;rw [if_neg h6,if_pos hall]
     rw [e];have HA:=Lib.hid hall;clear e hall;go_enter Tryz.func121,Tryz.ntmps121
     go_wp2_with (go_at_call 165;refine (nWithin_any HS.out HA.out).mono ?_;rintro e w1 ⟨rfl,hb1⟩;obtain ⟨hc1,hf1,hs1⟩:=hb1.cells)
     go_returns;exact ⟨rfl,exx⟩
    | true=>
     have e:Hp.frameErr sizes order=if prodI sizes > 2000 then 5 else if Hp.sortI order=Hp.upto sizes.length then 0 else 4:=by
      unfold Hp.frameErr prodI;rw [if_neg h6,if_neg (by rw [hall];simp)]
     rw [e];have HA:=Lib.hid hall;obtain ⟨ee,hee⟩:∃ ee,(if prodI sizes > 2000 then 5 else if Hp.sortI order=Hp.upto sizes.length then 0 else 4:Int)=ee:=⟨_,rfl⟩
     rw [hee];have HE:=Lib.hid hee;clear e hall hee;obtain ⟨n,hn⟩:∃ n,sizes.length=n:=⟨_,rfl⟩
     have HN:=Lib.hid hn;rw [hn] at h6 hsc ⊢;clear hn;go_enter Tryz.func121,Tryz.ntmps121
     go_wp2_with (go_at_call 165;refine ((HN.out ▸ nWithin_any HS.out HA.out)).mono ?_;rintro e w1 ⟨rfl,hb1⟩;obtain ⟨hc1,hf1,hs1⟩:=hb1.cells)
     have E1:=Lib.hid hb1;clear hb1 hc1 hf1 hs1
     go_loopg [5,19] n (fun g s i wr=>∃ (j:Nat) (m:Int),j ≤ n ∧ n-j ≤ g ∧ i = .int .i64 j ∧ s = .int .i64 m ∧ 0 ≤ m ∧ Hid (m ≤ (12:Int) ^ j) ∧ Hid (m=prodI (sizes.take j)) ∧ Hid (Ext w wr))
     case atStart=>exact ⟨0,1,Nat.zero_le _,by omega,rfl,rfl,by omega,Lib.hid (by simp),Lib.hid rfl,E1⟩
     case round=>
      obtain ⟨j,m,hj,hg,rfl,rfl,hm0,HM,HP,E⟩:=hrel;clear E1
      by_cases hlt:j < n
      · obtain ⟨x,hx⟩:=rd_get (l:=sizes) (j:=j) (by rw [HN.out];exact hlt);have hxb:=List.all_eq_true.1 HA.out x (List.mem_of_getElem? hx);simp only [Bool.and_eq_true,decide_eq_true_eq] at hxb;obtain ⟨b,o,rfl,hb,hcell⟩:=(HS.out.ext E.out).cells (by rw [HN.out];omega);have gx:=hcell j x hx;have HX:=Lib.hid hx;have hmb:=Int.le_trans HM.out (pow12 (by omega:j ≤ 6));have hp1:m * x ≤ (12:Int) ^ (j+1):=by
         rw [Int.pow_succ];exact Int.mul_le_mul HM.out hxb.2 (by omega) (Int.pow_nonneg (by omega))
        have hp0:0 ≤ m * x:=Int.mul_nonneg hm0 (by omega);have hp2:=Int.le_trans hp1 (pow12 (by omega:j+1 ≤ 6));have HP1:=Lib.hid hp1;have HP2:=Lib.hid (show m * x=prodI (sizes.take (j+1)) by rw [take_snocI hx,prodI_snoc,HP.out]);clear hcell hx hp1 hxb HM HP;generalize he:m * x=qv at hp0 hp2 HP1 HP2;have e2:wrap64 (m * x)=qv:=by rw [he];exact IntWalk.wrap64_in _ ⟨by omega,by omega⟩
        clear he
        go_wp2_with fail
        go_roundg (n-(j+1))
        case measure=>omega
        case rel=>exact ⟨j+1,qv,by omega,Nat.le_refl _,by go_num,by rw [e2],hp0,HP1,HP2,E⟩
      · have:j=n:=by omega
        subst this;have hp:=HP.out;rw [← HN.out,List.take_length] at hp;have HPR:=Lib.hid hp;have hm2:=Int.le_trans HM.out (pow12 (by omega));clear hp HM HP
        by_cases h2:m > 2000
        · have hee:=HE.out;rw [← HPR.out,if_pos h2] at hee;subst hee
          go_wp2_with fail
          go_returns;exact ⟨rfl,E.out⟩
        · have hee:=HE.out;rw [← HPR.out,if_neg h2] at hee;have HE2:=Lib.hid hee;clear hee HE
          go_wp2_with (first
           | (go_at_call 60;refine (sClone_any (HO.out.ext E.out) hq hol).mono ?_;rintro e w2 ⟨p2,c2,rfl,hR2,hE2,_⟩)
           | (go_at_call 163;refine (sSort_any hR2 hol).mono ?_;rintro e w3 ⟨rfl,hR3,hG3⟩)
           | (go_at_call 166;refine (numbers_any (by omega)).mono ?_;rintro e w4 ⟨g4,rfl,hS4,hE4⟩))
          obtain ⟨row,hgr,hrow⟩:=id hG3;have E3:=ext_grow hE2 hgr hrow;have E5:=E.out.trans (E3.trans hE4);have hS5:=(hR3.at_).ext hE4;have hlS:=sortI_length order;have hee:=HE2.out
          by_cases hso:Hp.sortI order=Hp.upto sizes.length
          · rw [if_pos hso] at hee;subst hee;rw [HN.out] at hso;have hEq:=sEqual_is (decide_eq_true hso) hS5 (show SliceAt w4 (some ⟨g4,0,none⟩) j (Hp.upto j) from hS4);rw [hlS,upto_length] at hEq;have HQ:=Lib.hid hEq;clear hEq hso hS5 hS4 hR3 hG3 hgr hrow hR2;refine HQ.out.mono ?_;rintro e w5 ⟨rfl,hE5⟩
            go_wp2_with fail
            go_returns;exact ⟨rfl,E5.trans hE5⟩
          · rw [if_neg hso] at hee;subst hee;rw [HN.out] at hso;have hEq:=sEqual_is (decide_eq_false hso) hS5 (show SliceAt w4 (some ⟨g4,0,none⟩) j (Hp.upto j) from hS4);rw [hlS,upto_length] at hEq;have HQ:=Lib.hid hEq;clear hEq hso hS5 hS4 hR3 hG3 hgr hrow hR2;refine HQ.out.mono ?_;rintro e w5 ⟨rfl,hE5⟩
            go_wp2_with fail
            go_returns;exact ⟨rfl,E5.trans hE5⟩
theorem hcheck_any {w:World} {p q:Option Addr} {c d:Nat} {words:Int} {sizes order:List Int} (hs:SliceAt w p c sizes) (ho:SliceAt w q d order) (hq:0 < order.length ∨ q=none) (hol:order.length ≤ 1000000) :
    Calls Tryz.prog 59 #[.slice p sizes.length c,.slice q order.length d,.int .i64 words] w fun e w'=>e = .returned (.int .i64 (Hp.newErr sizes order words)) ∧ Ext w w':=by
  have HC:=Lib.hid (frame_any hs ho hq hol);clear hs ho
  by_cases h0:Hp.frameErr sizes order=0
  · cases hw:Hp.within 32 40000 words with
    | true=>
     have e:Hp.newErr sizes order words=0:=by simp [Hp.newErr,h0,hw]
     rw [e];have HW:=Lib.hid hw;have HC':=Lib.hid (h0 ▸ HC.out);clear e h0 hw HC;go_enter Tryz.func59,Tryz.ntmps59
     go_wp2_with (first
      | (go_at_call 121;refine (HC'.out).mono ?_;rintro e w1 ⟨rfl,hb1⟩;obtain ⟨hc1,hf1,hs1⟩:=hb1.cells)
      | (go_at_call 105;refine ((HW.out ▸ within_any 32 40000 words _)).mono ?_;rintro e w2 ⟨rfl,hb2⟩;obtain ⟨hc2,hf2,hs2⟩:=hb2.cells))
     go_returns;exact ⟨rfl,exx⟩
    | false=>
     have e:Hp.newErr sizes order words=3:=by simp [Hp.newErr,h0,hw]
     rw [e];have HW:=Lib.hid hw;have HC':=Lib.hid (h0 ▸ HC.out);clear e h0 hw HC;go_enter Tryz.func59,Tryz.ntmps59
     go_wp2_with (first
      | (go_at_call 121;refine (HC'.out).mono ?_;rintro e w1 ⟨rfl,hb1⟩;obtain ⟨hc1,hf1,hs1⟩:=hb1.cells)
      | (go_at_call 105;refine ((HW.out ▸ within_any 32 40000 words _)).mono ?_;rintro e w2 ⟨rfl,hb2⟩;obtain ⟨hc2,hf2,hs2⟩:=hb2.cells))
     go_returns;exact ⟨rfl,exx⟩
  · have e:Hp.newErr sizes order words=Hp.frameErr sizes order:=by simp [Hp.newErr,h0]
    rw [e];have t0:(Hp.frameErr sizes order != 0)=true:=by simpa using h0
    clear e h0;generalize Hp.frameErr sizes order=fe at *;go_enter Tryz.func59,Tryz.ntmps59
    go_wp2_with (go_at_call 121;refine (HC.out).mono ?_;rintro e w1 ⟨rfl,hb1⟩;obtain ⟨hc1,hf1,hs1⟩:=hb1.cells)
    go_returns;exact ⟨rfl,exx⟩
end Go.Proofs.YtdokmmhjmclmnaaGreat
