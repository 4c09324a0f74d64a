/-
  Part 34 of a proof: NM1 NM2 NM3 NM4.
-/
import Derived.Test.YtdokmmhjmclmnaaGreatMN20
import Derived.Test.YtdokmmhjmclmnaaGreatMN22
import Derived.Test.YtdokmmhjmclmnaaGreatMN31
import Derived.Test.YtdokmmhjmclmnaaGreatMN33
set_option linter.unusedSimpArgs false
set_option linter.unusedVariables false
set_option linter.unusedSectionVars false
set_option linter.unnecessarySimpa false
namespace Go.Proofs.YtdokmmhjmclmnaaGreat
open Go.RowKit Go.Maps
structure Mkr where
 gm:Nat
 ge:Nat
 gn:Nat
 v0:Value
 v1:Value
 v2:Value
 v3:Value
 v6:Value
structure MkCells (w:World) (i:Mkr) (pe:Option Addr) (ne ce:Nat) (pn:Option Addr) (nn cn:Nat):Prop where
 c0:w.cell? ⟨i.gm,0,none⟩=some i.v0
 c1:w.cell? ⟨i.gm,1,none⟩=some i.v1
 c2:w.cell? ⟨i.gm,2,none⟩=some i.v2
 c3:w.cell? ⟨i.gm,3,none⟩=some i.v3
 c4:w.cell? ⟨i.gm,4,none⟩=some (.slice pe ne ce)
 c5:w.cell? ⟨i.gm,5,none⟩=some (.slice pn nn cn)
 c6:w.cell? ⟨i.gm,6,none⟩=some i.v6
 c7:w.cell? ⟨i.gm,7,none⟩=some (.map (some i.ge))
 c8:w.cell? ⟨i.gm,8,none⟩=some (.map (some i.gn))
 z:∀ o,w.frozen? ⟨i.gm,o,none⟩=false
namespace MkCells
variable {w w':World} {i:Mkr} {pe pn p:Option Addr} {ne ce nn cn n c:Nat}
theorem but (h:MkCells w i pe ne ce pn nn cn) {l:List Nat} (k:But l w w') (hg:i.gm ∉ l):MkCells w' i pe ne ce pn nn cn:=by
 have z:=cell_lt h.c0
 exact ⟨(k.cell z hg 0).trans h.c0,(k.cell z hg 1).trans h.c1,(k.cell z hg 2).trans h.c2,(k.cell z hg 3).trans h.c3,(k.cell z hg 4).trans h.c4,(k.cell z hg 5).trans h.c5,(k.cell z hg 6).trans h.c6,(k.cell z hg 7).trans h.c7,(k.cell z hg 8).trans h.c8,fun o=>(k.frozen z hg o).trans (h.z o)⟩
theorem set4 (h:MkCells w i pe ne ce pn nn cn):MkCells (w.setCell ⟨i.gm,4,none⟩ (.slice p n c)) i p n c pn nn cn:=by
 obtain ⟨a0,a1,a2,a3,a4,a5,a6,a7,a8,z⟩:=h
 exact ⟨by simp [go_sem,a0],by simp [go_sem,a1],by simp [go_sem,a2],by simp [go_sem,a3],by simp [go_sem,a4],by simp [go_sem,a5],by simp [go_sem,a6],by simp [go_sem,a7],by simp [go_sem,a8],fun o=>by simp [go_sem,z]⟩
theorem set5 (h:MkCells w i pe ne ce pn nn cn):MkCells (w.setCell ⟨i.gm,5,none⟩ (.slice p n c)) i pe ne ce p n c:=by
 obtain ⟨a0,a1,a2,a3,a4,a5,a6,a7,a8,z⟩:=h
 exact ⟨by simp [go_sem,a0],by simp [go_sem,a1],by simp [go_sem,a2],by simp [go_sem,a3],by simp [go_sem,a4],by simp [go_sem,a5],by simp [go_sem,a6],by simp [go_sem,a7],by simp [go_sem,a8],fun o=>by simp [go_sem,z]⟩
theorem set6 (h:MkCells w i pe ne ce pn nn cn) (v:Value):MkCells (w.setCell ⟨i.gm,6,none⟩ v) { i with v6:=v } pe ne ce pn nn cn:=by
 obtain ⟨a0,a1,a2,a3,a4,a5,a6,a7,a8,z⟩:=h
 exact ⟨by simp [go_sem,a0],by simp [go_sem,a1],by simp [go_sem,a2],by simp [go_sem,a3],by simp [go_sem,a4],by simp [go_sem,a5],by simp [go_sem,a6],by simp [go_sem,a7],by simp [go_sem,a8],fun o=>by simp [go_sem,z]⟩
end MkCells
structure MkEnds (w:World) (ge:Nat) (E:List (Int × Int)) (pe:Option Addr) (ce:Nat):Prop where
 em:IxAt 43 encV w ge E
 er:RowN w 2 43 pe ce (E.map endC)
theorem MkEnds.but {w w':World} {ge:Nat} {E:List (Int × Int)} {pe:Option Addr} {ce:Nat} (h:MkEnds w ge E pe ce) {l:List Nat} (k:But l w w') (h1:ge ∉ l) (h2:∀ b ∈ blk pe,b ∉ l):MkEnds w' ge E pe ce:=
 ⟨h.em.but k h1,h.er.but k fun b o e=>h2 b (mem_blk e)⟩
structure MkNodes (w:World) (gn:Nat) (N:List (Int × List Int)) (pn:Option Addr) (cn:Nat) (K:List (Nat × Nat)):Prop where
 nm:IxAt 204 encN w gn (N.map keyQ)
 nr:RowN w 2 41 pn cn (List.zipWith (fun q k=>nodeC q (some ⟨k.1,0,none⟩,k.2)) N K)
 kl:K.length=N.length
 ks:∀ (j:Nat) (q:Int × List Int) (k:Nat × Nat),N[j]? = some q → K[j]? = some k → SliceAt w (some ⟨k.1,0,none⟩) k.2 q.2
theorem MkNodes.but {w w':World} {gn:Nat} {N:List (Int × List Int)} {pn:Option Addr} {cn:Nat} {K:List (Nat × Nat)} (h:MkNodes w gn N pn cn K) {l:List Nat} (k:But l w w') (h1:gn ∉ l) (h2:∀ b ∈ blk pn,b ∉ l) (h3:∀ b ∈ K.map Prod.fst,b ∉ l):MkNodes w' gn N pn cn K:=
 ⟨h.nm.but k h1,h.nr.but k fun b o e=>h2 b (mem_blk e),h.kl,fun j q kk hq hk=>(h.ks j q kk hq hk).but k fun b o e=>by
  cases e
  exact h3 _ (List.mem_map.2 ⟨kk,List.mem_of_getElem? hk,rfl⟩)⟩
def Mkr.dyn (i:Mkr) (pe pn:Option Addr):List Nat:=i.gm :: i.ge :: i.gn :: (blk pe ++ blk pn)
structure MkSt (wb w:World) (i:Mkr) (E:List (Int × Int)) (N:List (Int × List Int)) (pe:Option Addr) (ce:Nat) (pn:Option Addr) (cn:Nat) (K:List (Nat × Nat)):Prop where
 ext:Ext wb w
 c:MkCells w i pe E.length ce pn N.length cn
 e:MkEnds w i.ge E pe ce
 n:MkNodes w i.gn N pn cn K
 lo:∀ b,b ∈ i.dyn pe pn ∨ b ∈ K.map Prod.fst → wb.heap.size ≤ b ∧ b < w.heap.size
 nd:i.gm ≠ i.ge ∧ i.gm ≠ i.gn ∧ i.ge ≠ i.gn
 ndp:∀ b ∈ blk pe,b ≠ i.gm ∧ b ≠ i.ge ∧ b ≠ i.gn ∧ b ∉ blk pn ∧ b ∉ K.map Prod.fst
 ndn:∀ b ∈ blk pn,b ≠ i.gm ∧ b ≠ i.ge ∧ b ≠ i.gn ∧ b ∉ K.map Prod.fst
 ndk:∀ b ∈ K.map Prod.fst,b ≠ i.gm ∧ b ≠ i.ge ∧ b ≠ i.gn
namespace MkSt
variable {wb w w':World} {i:Mkr} {E:List (Int × Int)} {N:List (Int × List Int)} {pe pn:Option Addr} {ce cn:Nat} {K:List (Nat × Nat)}
theorem in_m (i:Mkr) (pe pn:Option Addr):i.gm ∈ i.dyn pe pn:=by simp [Mkr.dyn]
theorem in_e (i:Mkr) (pe pn:Option Addr):i.ge ∈ i.dyn pe pn:=by simp [Mkr.dyn]
theorem in_n (i:Mkr) (pe pn:Option Addr):i.gn ∈ i.dyn pe pn:=by simp [Mkr.dyn]
theorem in_pe (i:Mkr) (pe pn:Option Addr) {b:Nat} (h:b ∈ blk pe):b ∈ i.dyn pe pn:=by simp [Mkr.dyn,h]
theorem in_pn (i:Mkr) (pe pn:Option Addr) {b:Nat} (h:b ∈ blk pn):b ∈ i.dyn pe pn:=by simp [Mkr.dyn,h]
theorem far (h:MkSt wb w i E N pe ce pn cn K) {l:List Nat} (k:But l w w') (hw:∀ b ∈ l,wb.heap.size ≤ b) (hl:∀ b ∈ l,b ∉ i.dyn pe pn ∧ b ∉ K.map Prod.fst):MkSt wb w' i E N pe ce pn cn K:=by
 have f2:∀ b ∈ i.dyn pe pn,b ∉ l:=fun b hb hm=>(hl b hm).1 hb
 have f3:∀ b ∈ K.map Prod.fst,b ∉ l:=fun b hb hm=>(hl b hm).2 hb
 exact
  { h with
    ext:=k.toExt h.ext hw
    c:=h.c.but k (f2 _ (in_m _ _ _))
    e:=h.e.but k (f2 _ (in_e _ _ _)) fun b hb=>f2 _ (in_pe _ _ _ hb)
    n:=h.n.but k (f2 _ (in_n _ _ _)) (fun b hb=>f2 _ (in_pn _ _ _ hb)) f3
    lo:=fun b hb=>⟨(h.lo b hb).1,Nat.lt_of_lt_of_le (h.lo b hb).2 k.size⟩ }
theorem ext' (h:MkSt wb w i E N pe ce pn cn K) (k:Ext w w'):MkSt wb w' i E N pe ce pn cn K:=h.far (l:=[]) (But.ofExt k) (by simp) (by simp)
theorem end_ (h:MkSt wb w i E N pe ce pn cn K) {w1 w2:World} {g cap:Nat} {row:Option Nat} {v:Int × Int} (h1:But [i.ge] w w1) (hm:IxAt 43 encV w1 i.ge (E ++ [v])) (hR:RowN w2 2 43 (some ⟨g,0,none⟩) cap (E.map endC ++ [endC v])) (hG:w1.grownBy w2 row) (hrow:∀ r,row=some r → pe=some ⟨r,0,none⟩) (hg:pe=some ⟨g,0,none⟩ ∨ g=w1.heap.size) (hlt:g < w2.heap.size) :
    MkSt wb (w2.setCell ⟨i.gm,4,none⟩ (.slice (some ⟨g,0,none⟩) (E.length+1) cap)) i (E ++ [v]) N (some ⟨g,0,none⟩) cap pn cn K ∧ But (i.gm :: i.ge :: blk pe) w (w2.setCell ⟨i.gm,4,none⟩ (.slice (some ⟨g,0,none⟩) (E.length+1) cap)) ∧ (g ∈ blk pe ∨ w.heap.size ≤ g):=by
  have k2:But (blk pe) w1 w2:=⟨hG.os,hG.tape,hG.output,hG.size,fun j hj hn=>hG.block j hj fun e=>hn (by rw [hrow j e.symm];simp [blk])⟩
  have k12:But (i.ge :: blk pe) w w2:=(h1.mono (l':=i.ge :: blk pe) (by simp)).trans (k2.mono (l':=i.ge :: blk pe) (fun x hx=>by simp [hx]));have k3:But [i.gm] w2 (w2.setCell ⟨i.gm,4,none⟩ (.slice (some ⟨g,0,none⟩) (E.length+1) cap)):=(But.refl _ _).setCell (.inl (by simp)) _;have kb:But (i.gm :: i.ge :: blk pe) w (w2.setCell ⟨i.gm,4,none⟩ (.slice (some ⟨g,0,none⟩) (E.length+1) cap)):=(k12.mono (l':=i.gm :: i.ge :: blk pe) (fun x hx=>by simp only [List.mem_cons] at hx ⊢;exact .inr hx)).trans (k3.mono (l':=i.gm :: i.ge :: blk pe) (fun x hx=>by rw [List.mem_singleton.1 hx];simp));have s1:=h1.size;have hgi:g ∈ blk pe ∨ w.heap.size ≤ g:=hg.imp (fun e=>by rw [e];simp [blk]) (fun e=>by omega);refine ⟨?_,kb,hgi⟩;have gm:=h.lo i.gm (.inl (in_m _ _ _));have ge:=h.lo i.ge (.inl (in_e _ _ _));have gn:=h.lo i.gn (.inl (in_n _ _ _));have sz:w2.heap.size=(w2.setCell ⟨i.gm,4,none⟩ (.slice (some ⟨g,0,none⟩) (E.length+1) cap)).heap.size:=by simp [World.setCell]
  have s2:=k12.size;have gnew:∀ b,b < w.heap.size → b ∉ blk pe → b ≠ g:=fun b hb hn e=>by
   subst e
   rcases hgi with hg | hg
   · exact hn hg
   · omega
  have gblk:∀ b ∈ blk (some (⟨g,0,none⟩:Addr)),b=g:=fun b hb=>by simpa [blk] using hb
  have gmpe:i.gm ∉ blk pe:=fun hm=>(h.ndp _ hm).1 rfl
  have gepe:i.ge ∉ blk pe:=fun hm=>(h.ndp _ hm).2.1 rfl
  have gnpe:i.gn ∉ blk pe:=fun hm=>(h.ndp _ hm).2.2.1 rfl
  exact
   { ext:=kb.toExt h.ext fun b hb=>by
       rcases List.mem_cons.1 hb with rfl | hb
       · exact gm.1
       · rcases List.mem_cons.1 hb with rfl | hb
         · exact ge.1
         · exact (h.lo b (.inl (in_pe _ _ _ hb))).1
     c:=by
      rw [List.length_append];exact (h.c.but k12 (by simp only [List.mem_cons,not_or];exact ⟨h.nd.1,gmpe⟩)).set4
     e:=by
      refine ⟨(hm.but k2 gepe).but k3 (by simpa using h.nd.1.symm), ?_⟩;rw [List.map_append];exact hR.but k3 fun b o e hm=>by
       cases e
       exact gnew _ gm.2 gmpe (List.mem_singleton.1 hm).symm
     n:=h.n.but kb (by simp only [List.mem_cons,not_or];exact ⟨h.nd.2.1.symm,h.nd.2.2.symm,gnpe⟩) (fun b hb=>by simp only [List.mem_cons,not_or];exact ⟨(h.ndn b hb).1,(h.ndn b hb).2.1,fun hm=>(h.ndp b hm).2.2.2.1 hb⟩) (fun b hb=>by simp only [List.mem_cons,not_or];exact ⟨(h.ndk b hb).1,(h.ndk b hb).2.1,fun hm=>(h.ndp b hm).2.2.2.2 hb⟩)
     lo:=fun b hb=>by
      rw [← sz];have old:b ∈ i.dyn pe pn ∨ b ∈ K.map Prod.fst → wb.heap.size ≤ b ∧ b < w2.heap.size:=fun hb=>⟨(h.lo b hb).1,Nat.lt_of_lt_of_le (h.lo b hb).2 s2⟩
      rcases hb with hb | hb
      · simp only [Mkr.dyn,List.mem_cons,List.mem_append] at hb
        rcases hb with hb | hb | hb | hb | hb
        · exact old (.inl (by rw [hb];exact in_m _ _ _))
        · exact old (.inl (by rw [hb];exact in_e _ _ _))
        · exact old (.inl (by rw [hb];exact in_n _ _ _))
        · have:=gblk b hb;subst this
          rcases hgi with hg | hg
          · exact ⟨(h.lo _ (.inl (in_pe _ _ _ hg))).1,hlt⟩
          · exact ⟨by have:=h.ext.le;omega,hlt⟩
        · exact old (.inl (in_pn _ _ _ hb))
      · exact old (.inr hb)
     nd:=h.nd
     ndp:=fun b hb=>by
      have:=gblk b hb;subst this;exact ⟨fun e=>gnew _ gm.2 gmpe e.symm,fun e=>gnew _ ge.2 gepe e.symm,fun e=>gnew _ gn.2 gnpe e.symm,fun hm=>gnew b (h.lo b (.inl (in_pn _ _ _ hm))).2 (fun hx=>(h.ndp b hx).2.2.2.1 hm) rfl,fun hm=>gnew b (h.lo b (.inr hm)).2 (fun hx=>(h.ndp b hx).2.2.2.2 hm) rfl⟩
     ndn:=h.ndn
     ndk:=h.ndk }
theorem node_ (h:MkSt wb w i E N pe ce pn cn K) {w1 w2:World} {g cap g0 c0:Nat} {row:Option Nat} {q:Int × List Int} (h1:But [i.gn] w w1) (hm:IxAt 204 encN w1 i.gn (N.map keyQ ++ [keyQ q])) (hR:RowN w2 2 41 (some ⟨g,0,none⟩) cap (List.zipWith (fun q k=>nodeC q (some ⟨k.1,0,none⟩,k.2)) N K ++ [nodeC q (some ⟨g0,0,none⟩,c0)])) (hG:w1.grownBy w2 row) (hrow:∀ r,row=some r → pn=some ⟨r,0,none⟩) (hg:pn=some ⟨g,0,none⟩ ∨ g=w1.heap.size) (hlt:g < w2.heap.size)
    (hs:SliceAt w (some ⟨g0,0,none⟩) c0 q.2) (h0:wb.heap.size ≤ g0 ∧ g0 < w.heap.size) (h2:g0 ∉ i.dyn pe pn) :
    MkSt wb (w2.setCell ⟨i.gm,5,none⟩ (.slice (some ⟨g,0,none⟩) (N.length+1) cap)) i E (N ++ [q]) pe ce (some ⟨g,0,none⟩) cap (K ++ [(g0,c0)]) ∧ But (i.gm :: i.gn :: blk pn) w (w2.setCell ⟨i.gm,5,none⟩ (.slice (some ⟨g,0,none⟩) (N.length+1) cap)) ∧ (g ∈ blk pn ∨ w.heap.size ≤ g):=by
  have k2:But (blk pn) w1 w2:=⟨hG.os,hG.tape,hG.output,hG.size,fun j hj hn=>hG.block j hj fun e=>hn (by rw [hrow j e.symm];simp [blk])⟩
  have k12:But (i.gn :: blk pn) w w2:=(h1.mono (l':=i.gn :: blk pn) (by simp)).trans (k2.mono (l':=i.gn :: blk pn) (fun x hx=>by simp [hx]));have k3:But [i.gm] w2 (w2.setCell ⟨i.gm,5,none⟩ (.slice (some ⟨g,0,none⟩) (N.length+1) cap)):=(But.refl _ _).setCell (.inl (by simp)) _;have kb:But (i.gm :: i.gn :: blk pn) w (w2.setCell ⟨i.gm,5,none⟩ (.slice (some ⟨g,0,none⟩) (N.length+1) cap)):=(k12.mono (l':=i.gm :: i.gn :: blk pn) (fun x hx=>by simp only [List.mem_cons] at hx ⊢;exact .inr hx)).trans (k3.mono (l':=i.gm :: i.gn :: blk pn) (fun x hx=>by rw [List.mem_singleton.1 hx];simp));have s1:=h1.size;have hgi:g ∈ blk pn ∨ w.heap.size ≤ g:=hg.imp (fun e=>by rw [e];simp [blk]) (fun e=>by omega);refine ⟨?_,kb,hgi⟩;have gm:=h.lo i.gm (.inl (in_m _ _ _));have ge:=h.lo i.ge (.inl (in_e _ _ _));have gn:=h.lo i.gn (.inl (in_n _ _ _));have sz:w2.heap.size=(w2.setCell ⟨i.gm,5,none⟩ (.slice (some ⟨g,0,none⟩) (N.length+1) cap)).heap.size:=by simp [World.setCell]
  have s2:=k12.size;have gnew:∀ b,b < w.heap.size → b ∉ blk pn → b ≠ g:=fun b hb hn e=>by
   subst e
   rcases hgi with hg | hg
   · exact hn hg
   · omega
  have gblk:∀ b ∈ blk (some (⟨g,0,none⟩:Addr)),b=g:=fun b hb=>by simpa [blk] using hb
  have gmpn:i.gm ∉ blk pn:=fun hm=>(h.ndn _ hm).1 rfl
  have gepn:i.ge ∉ blk pn:=fun hm=>(h.ndn _ hm).2.1 rfl
  have gnpn:i.gn ∉ blk pn:=fun hm=>(h.ndn _ hm).2.2.1 rfl
  have g0d:g0 ≠ i.gm ∧ g0 ≠ i.ge ∧ g0 ≠ i.gn ∧ g0 ∉ blk pe ∧ g0 ∉ blk pn:=by
   simpa only [Mkr.dyn,List.mem_cons,List.mem_append,not_or] using h2
  have inK:∀ b ∈ (K ++ [(g0,c0)]).map Prod.fst,b=g0 ∨ b ∈ K.map Prod.fst:=fun b hb=>by
   rw [List.map_append] at hb
   rcases List.mem_append.1 hb with hb | hb
   · exact .inr hb
   · exact .inl (by simpa using hb)
  have gne:g ≠ g0:=fun e=>gnew g0 h0.2 g0d.2.2.2.2 e.symm
  exact
   { ext:=kb.toExt h.ext fun b hb=>by
       rcases List.mem_cons.1 hb with rfl | hb
       · exact gm.1
       · rcases List.mem_cons.1 hb with rfl | hb
         · exact gn.1
         · exact (h.lo b (.inl (in_pn _ _ _ hb))).1
     c:=by
      rw [List.length_append];exact (h.c.but k12 (by simp only [List.mem_cons,not_or];exact ⟨h.nd.2.1,gmpn⟩)).set5
     e:=h.e.but kb (by simp only [List.mem_cons,not_or];exact ⟨h.nd.1.symm,h.nd.2.2,gepn⟩) (fun b hb=>by simp only [List.mem_cons,not_or];exact ⟨(h.ndp b hb).1,(h.ndp b hb).2.2.1,(h.ndp b hb).2.2.2.1⟩)
     n:=by
      refine ⟨?_, ?_,by simp [h.n.kl],fun j q' kk hq hk=>?_⟩
      · rw [List.map_append];exact (hm.but k2 gnpn).but k3 (by simpa using h.nd.2.1.symm)
      · rw [show List.zipWith (fun (q:Int × List Int) (k:Nat × Nat)=>nodeC q (some ⟨k.1,0,none⟩,k.2)) (N ++ [q]) (K ++ [(g0,c0)])=List.zipWith (fun q k=>nodeC q (some ⟨k.1,0,none⟩,k.2)) N K ++ [nodeC q (some ⟨g0,0,none⟩,c0)] by rw [List.zipWith_append h.n.kl.symm];rfl];exact hR.but k3 fun b o e hm=>by
         cases e
         exact gnew _ gm.2 gmpn (List.mem_singleton.1 hm).symm
      · by_cases hj:j < N.length
        · rw [List.getElem?_append_left hj] at hq;rw [List.getElem?_append_left (by rw [h.n.kl];exact hj)] at hk;refine (h.n.ks j q' kk hq hk).but kb fun b o e=>?_
          cases e
          have hb:kk.1 ∈ K.map Prod.fst:=List.mem_map.2 ⟨kk,List.mem_of_getElem? hk,rfl⟩;simp only [List.mem_cons,not_or];exact ⟨(h.ndk _ hb).1,(h.ndk _ hb).2.2,fun hm=>(h.ndn _ hm).2.2.2 hb⟩
        · have ej:j=N.length:=by
            have:=(List.getElem?_eq_some_iff.1 hq).1;simp at this;omega
          subst ej;rw [List.getElem?_append_right (Nat.le_refl _),Nat.sub_self] at hq;rw [List.getElem?_append_right (by rw [h.n.kl];exact Nat.le_refl _),h.n.kl,Nat.sub_self] at hk
          cases hq
          cases hk
          refine hs.but kb fun b o e=>?_
          cases e
          simp only [List.mem_cons,not_or];exact ⟨g0d.1,g0d.2.2.1,g0d.2.2.2.2⟩
     lo:=fun b hb=>by
      rw [← sz];have old:b ∈ i.dyn pe pn ∨ b ∈ K.map Prod.fst → wb.heap.size ≤ b ∧ b < w2.heap.size:=fun hb=>⟨(h.lo b hb).1,Nat.lt_of_lt_of_le (h.lo b hb).2 s2⟩
      rcases hb with hb | hb
      · simp only [Mkr.dyn,List.mem_cons,List.mem_append] at hb
        rcases hb with hb | hb | hb | hb | hb
        · exact old (.inl (by rw [hb];exact in_m _ _ _))
        · exact old (.inl (by rw [hb];exact in_e _ _ _))
        · exact old (.inl (by rw [hb];exact in_n _ _ _))
        · exact old (.inl (in_pe _ _ _ hb))
        · have:=gblk b hb;subst this
          rcases hgi with hg | hg
          · exact ⟨(h.lo _ (.inl (in_pn _ _ _ hg))).1,hlt⟩
          · exact ⟨by have:=h.ext.le;omega,hlt⟩
      · rcases inK b hb with rfl | hb
        · exact ⟨h0.1,by omega⟩
        · exact old (.inr hb)
     nd:=h.nd
     ndp:=fun b hb=>⟨(h.ndp b hb).1,(h.ndp b hb).2.1,(h.ndp b hb).2.2.1,fun hm=>gnew b (h.lo b (.inl (in_pe _ _ _ hb))).2 (h.ndp b hb).2.2.2.1 (gblk b hm),fun hm=>by
      rcases inK b hm with rfl | hm
      · exact g0d.2.2.2.1 hb
      · exact (h.ndp b hb).2.2.2.2 hm⟩
     ndn:=fun b hb=>by
      have:=gblk b hb;subst this;exact ⟨fun e=>gnew _ gm.2 gmpn e.symm,fun e=>gnew _ ge.2 gepn e.symm,fun e=>gnew _ gn.2 gnpn e.symm,fun hm=>by
       rcases inK b hm with e | hm
       · exact gne e
       · exact gnew b (h.lo b (.inr hm)).2 (fun hx=>(h.ndn b hx).2.2.2 hm) rfl⟩
     ndk:=fun b hb=>by
      rcases inK b hb with rfl | hb
      · exact ⟨g0d.1,g0d.2.1,g0d.2.2.1⟩
      · exact h.ndk b hb }
end MkSt
open Go.RowKit Go.Maps
section
variable {P:Program} {ops:Array Oper} {Q:Exit → Act → World → Prop} {md:Region.Mode} {S:World → Prop}
end
theorem wpOp_append_N {ops:Array Oper} {Q:Exit → Act → World → Prop} {i:Nat} {o:Oper} {K:Act → World → Prop} {a:Act} {w:World} (s x:Operand) (T t:TypeId) (hi:ops[i]? = some o)
    (ho:o.op = .call { callee:=.builtin .append,args:=#[s,x],argTypes:=#[T,T] }) (hw:Region.wanted o (yielded ops a.tmps)=true) {z:Value} {n bytes:Nat} (hT:Tryz.prog.underlying T=some (.slice t)) (hinfo:(Tryz.prog.info? t).map (fun i=>(i.zero,i.size,i.bytes))=some (some z,n,bytes)) (hzn:z.cells.size=n) (hn0:0 < n) (hby:bytes ≤ 1000)
    {c b m:Nat} {p:Option Addr} {X:List (List Value)} {y:List Value} (hm:X.length=m) (hs:a.eval s = .slice p m c) (hx:a.eval x = .slice (some ⟨b,0,none⟩) 1 1)
    (hrow:RowN w n t p c X) (hyl:y.length=n) (hy:∀ i v,y[i]? = some v → w.cell? ⟨b,i,none⟩=some v) (hone:∀ v ∈ y,v.oneCell'=true) (hlen:m < 10000000)
    (h:∀ g cap w' row,RowN w' n t (some ⟨g,0,none⟩) cap (X ++ [y]) → w.grownBy w' row → (∀ r,row=some r → p=some ⟨r,0,none⟩) → (p=some ⟨g,0,none⟩ ∨ g=w.heap.size) → g < w'.heap.size → K (a.put o.dst (.slice (some ⟨g,0,none⟩) (m+1) cap)) w'):wpOp Tryz.prog ops Q i K a w:=by
  subst hm;unfold wpOp;simp only [hi];rw [if_pos hw];refine .inl ?_;obtain ⟨i0,hi0,hz0,hz1,hz2⟩:=info_parts hinfo;refine wp_append_lies w s x T ho 0 t i0 z n bytes hT hi0 hz0 hz1 hz2 hzn hn0 _ _ _ hs hrow.own ⟨b,0,none⟩ 1 1 y hx (by rw [hyl,Nat.one_mul]) (fun j u hj=>?_) hone (by omega) (by unfold maxLen;omega) (Nat.le_trans (Nat.mul_le_mul (show X.length+1 ≤ 10000000 by omega) hby) (by decide)) (Nat.zero_le _) _ rfl ?_
  · rw [Addr.add_lit]
    simpa using hy j u hj
  · intro g cap w' hown hgrow hor hlt;have own:=hrow.own_blk;refine h g cap w' _ ⟨by simpa using hown,fun u hu=>?_⟩ hgrow own (hor.imp (own g) id) hlt
    rcases List.mem_append.1 hu with hu | hu
    · exact hrow.len u hu
    · rw [List.mem_singleton.1 hu];exact hyl
theorem nEnd2 {w:World} (k:Int) (h1:0 ≤ k) (h2:k ≤ 1000000000) :
    Calls Tryz.prog 198 #[.int .i64 k] w fun e w'=>e = .returned (.int .i64 (-1-k)) ∧ Ext w w':=by
  have s1:IntKind.i64.wrap (-1-k) = -1-k:=IntWalk.i64_in _ (by omega);clear h1 h2;go_enter Tryz.func198,Tryz.ntmps198
  go_wp2_with fail
  go_returns;exact ⟨rfl,exx⟩
def MkPost (wb w:World) (i:Mkr) (l:List Nat) (x:Int) (E:List (Int × Int)) (N:List (Int × List Int)) (K:List (Nat × Nat)) (e:Ending) (w':World):Prop:=
 e = .returned (.int .i64 x) ∧ ∃ (pe:Option Addr) (ce:Nat) (pn:Option Addr) (cn:Nat),MkSt wb w' i E N pe ce pn cn K ∧ But l w w' ∧ (∀ b ∈ i.dyn pe pn,b ∈ l ∨ w.heap.size ≤ b)
set_option maxRecDepth 100000 in
set_option maxHeartbeats 8000000 in
theorem mkEnd_old {wb w:World} {i:Mkr} {E:List (Int × Int)} {N:List (Int × List Int)} {pe pn:Option Addr} {ce cn j:Nat} {K:List (Nat × Nat)} (h:MkSt wb w i E N pe ce pn cn K) {v:Int × Int} (hv:okV v) (hj:E.idxOf? v=some j) (hjl:j ≤ 1000000) :
    Calls Tryz.prog 197 #[.pointer (some ⟨i.gm,0,none⟩),.agg #[.int .u8 v.1,.int .i64 v.2]] w (MkPost wb w i (i.dyn pe pn) (-1-(j:Int)) E N K):=by
  have H:=Lib.hid h;have LK:=Lib.hid (fun W (hE:Ext w W)=>by have:=(h.e.em.ext hE).lookOk keyV (t:=189) Tryz.underlying189 hv;rw [hj] at this;exact this);have c7:=h.c.c7;have z7:=cell_lt c7;have NE:=Lib.hid (fun W=>nEnd2 (w:=W) (j:Int) (by omega) (by omega));clear h hj;unfold encV at LK;obtain ⟨f,n⟩:=v;simp only at *;go_enter Tryz.func197,Tryz.ntmps197;go_upto_region 1 with fail
  refine cut_world (F:=fun W=>Hid (Ext w W) ∧ W.cell? ⟨w.heap.size,0,none⟩=some (.int .u8 f) ∧ W.cell? ⟨w.heap.size,1,none⟩=some (.int .i64 n)) ⟨Lib.hid (exx),by go_simp,by go_simp⟩ ?_;intro w0 ⟨E0,v0,v1⟩;generalize w.heap.size=gv at v0 v1 ⊢;have zv:=cell_lt v0;have m7:=(E0.out.cell z7 7).trans c7;have zm:=cell_lt m7;have mixed:Tryz.prog.follows .mixedOrders=true:=by kernel_rfl
  have PR25:=Lib.hid (fun (ww:World) (hSw:Ext w0 ww)=>And.intro ((hSw.cell zm 7).trans m7) (And.intro ((hSw.cell zv 0).trans v0) (And.intro ((hSw.cell zv 1).trans v1) (LK.out _ (E0.out.trans hSw)))));refine wp_region_seq (S:=fun W=>Ext w0 W) (R:=Ext) (by kernel_rfl) Ext.refl ?_ ?_
  · exact exx
  refine' tkL 0 rfl ?h0_1447 ?_
  case h0_1447=>(intro w q;obtain ⟨m7',v0',v1',hl⟩:=PR25.out w q;go_simp;try with_reducible rfl)
  refine layy ?_;refine' tkL 1 rfl ?h1_1448 ?_
  case h1_1448=>(intro w q;obtain ⟨m7',v0',v1',hl⟩:=PR25.out w q;go_simp;try with_reducible rfl)
  refine layy ?_;refine' tkL 2 rfl ?h2_1449 ?_
  case h2_1449=>(intro w q;obtain ⟨m7',v0',v1',hl⟩:=PR25.out w q;go_simp;try with_reducible rfl)
  refine layy ?_;refine' tkL 3 rfl ?h3_1450 ?_
  case h3_1450=>(intro w q;obtain ⟨m7',v0',v1',hl⟩:=PR25.out w q;go_simp;try with_reducible rfl)
  refine layy ?_;refine' tkL 4 rfl ?h4_1451 ?_
  case h4_1451=>(intro w q;obtain ⟨m7',v0',v1',hl⟩:=PR25.out w q;go_simp;try with_reducible rfl)
  refine layy ?_;refine' tkL 5 rfl ?h5_1452 ?_
  case h5_1452=>(intro w q;obtain ⟨m7',v0',v1',hl⟩:=PR25.out w q;go_simp;try with_reducible rfl)
  refine layy ?_;refine' tkL 6 rfl ?h6_1453 ?_
  case h6_1453=>(intro w q;obtain ⟨m7',v0',v1',hl⟩:=PR25.out w q;go_simp;try with_reducible rfl)
  refine layy ?_;refine' tkL 7 rfl ?h7_1454 ?_
  case h7_1454=>(intro w q;obtain ⟨m7',v0',v1',hl⟩:=PR25.out w q;go_simp;try with_reducible rfl)
  refine layy ?_;refine' tkL 8 rfl ?h8_1455 ?_
  case h8_1455=>(intro w q;obtain ⟨m7',v0',v1',hl⟩:=PR25.out w q;go_simp;try with_reducible rfl)
  refine layy ?_;refine' tkL 9 rfl ?h9_1456 ?_
  case h9_1456=>(intro w q;obtain ⟨m7',v0',v1',hl⟩:=PR25.out w q;go_simp;try with_reducible rfl)
  refine layy ?_;refine' tkL 10 rfl ?h10_1457 ?_
  case h10_1457=>(intro w q;obtain ⟨m7',v0',v1',hl⟩:=PR25.out w q;go_simp;try with_reducible rfl)
  refine layy ?_;refine wpAnyR_done (by kernel_rfl) ?_ _;intro x1 _ Ex1
  go_wp2_with (go_at_call 198;refine (NE.out _).mono ?_;rintro e w1 ⟨rfl,hb1⟩;obtain ⟨hc1,hf1,hs1⟩:=hb1.cells)
  go_returns;have EX:=E0.out.trans (Ex1.trans hb1);exact ⟨rfl,pe,ce,pn,cn,H.out.ext' EX,But.ofExt EX,fun b hb=>.inl hb⟩
set_option maxRecDepth 100000 in
set_option maxHeartbeats 8000000 in
theorem mkEnd_new {wb w:World} {i:Mkr} {E:List (Int × Int)} {N:List (Int × List Int)} {pe pn:Option Addr} {ce cn:Nat} {K:List (Nat × Nat)} (h:MkSt wb w i E N pe ce pn cn K) {v:Int × Int} (hv:okV v) (hj:E.idxOf? v=none) (hjl:E.length ≤ 100000) :
    Calls Tryz.prog 197 #[.pointer (some ⟨i.gm,0,none⟩),.agg #[.int .u8 v.1,.int .i64 v.2]] w (MkPost wb w i (i.dyn pe pn) (-1-(E.length:Int)) (E ++ [v]) N K):=by
  have H:=Lib.hid h;have LK:=Lib.hid (fun W (hE:Ext w W)=>by have:=(h.e.em.ext hE).lookOk keyV (t:=189) Tryz.underlying189 hv;rw [hj] at this;exact this);have PU:=Lib.hid (fun W (hE:Ext w W)=>(h.e.em.ext hE).put keyV (t:=189) Tryz.underlying189 hv (by omega) (List.idxOf?_eq_none_iff.1 hj));have c7:=h.c.c7;have z7:=cell_lt c7;have c4:=h.c.c4;obtain ⟨ne,hne⟩:∃ ne,E.length=ne:=⟨_,rfl⟩
  have HNE:=Lib.hid hne;rw [hne] at PU c4 hjl ⊢;have NE:=Lib.hid (fun W=>nEnd2 (w:=W) (ne:Int) (by omega) (by omega));clear h hj hne;unfold encV at LK PU;obtain ⟨f,n⟩:=v;simp only [Option.isSome_none] at LK PU;simp only at *;go_enter Tryz.func197,Tryz.ntmps197;go_upto_region 1 with fail
  refine cut_world (F:=fun W=>Hid (Ext w W) ∧ W.cell? ⟨w.heap.size,0,none⟩=some (.int .u8 f) ∧ W.cell? ⟨w.heap.size,1,none⟩=some (.int .i64 n)) ⟨Lib.hid (exx),by go_simp,by go_simp⟩ ?_;intro w0 ⟨E0,v0,v1⟩;have GV:=Lib.hid (show w.heap.size ≤ w.heap.size from Nat.le_refl _);generalize hgv:w.heap.size=gv at v0 v1 GV ⊢;have HGV:=Lib.hid hgv;clear hgv;have zv:=cell_lt v0;have m7:=(E0.out.cell z7 7).trans c7;have m4:=(E0.out.cell z7 4).trans c4;have zm:=cell_lt m7;have mixed:Tryz.prog.follows .mixedOrders=true:=by kernel_rfl
  have PR26:=Lib.hid (fun (ww:World) (hSw:Ext w0 ww)=>And.intro ((hSw.cell zm 7).trans m7) (And.intro ((hSw.cell zv 0).trans v0) (And.intro ((hSw.cell zv 1).trans v1) (LK.out _ (E0.out.trans hSw)))));refine wp_region_seq (S:=fun W=>Ext w0 W) (R:=Ext) (by kernel_rfl) Ext.refl ?_ ?_
  · exact exx
  refine' tkL 0 rfl ?h0_1458 ?_
  case h0_1458=>(intro w q;obtain ⟨m7',v0',v1',hl⟩:=PR26.out w q;go_simp;try with_reducible rfl)
  refine layy ?_;refine' tkL 1 rfl ?h1_1459 ?_
  case h1_1459=>(intro w q;obtain ⟨m7',v0',v1',hl⟩:=PR26.out w q;go_simp;try with_reducible rfl)
  refine layy ?_;refine' tkL 2 rfl ?h2_1460 ?_
  case h2_1460=>(intro w q;obtain ⟨m7',v0',v1',hl⟩:=PR26.out w q;go_simp;try with_reducible rfl)
  refine layy ?_;refine' tkL 3 rfl ?h3_1461 ?_
  case h3_1461=>(intro w q;obtain ⟨m7',v0',v1',hl⟩:=PR26.out w q;go_simp;try with_reducible rfl)
  refine layy ?_;refine' tkL 4 rfl ?h4_1462 ?_
  case h4_1462=>(intro w q;obtain ⟨m7',v0',v1',hl⟩:=PR26.out w q;go_simp;try with_reducible rfl)
  refine layy ?_;refine' tkL 5 rfl ?h5_1463 ?_
  case h5_1463=>(intro w q;obtain ⟨m7',v0',v1',hl⟩:=PR26.out w q;go_simp;try with_reducible rfl)
  refine layy ?_;refine' tkL 6 rfl ?h6_1464 ?_
  case h6_1464=>(intro w q;obtain ⟨m7',v0',v1',hl⟩:=PR26.out w q;go_simp;try with_reducible rfl)
  refine layy ?_;refine' tkL 7 rfl ?h7_1465 ?_
  case h7_1465=>(intro w q;obtain ⟨m7',v0',v1',hl⟩:=PR26.out w q;go_simp;try with_reducible rfl)
  refine layy ?_;refine' tkL 8 rfl ?h8_1466 ?_
  case h8_1466=>(intro w q;obtain ⟨m7',v0',v1',hl⟩:=PR26.out w q;go_simp;try with_reducible rfl)
  refine layy ?_;refine' tkL 9 rfl ?h9_1467 ?_
  case h9_1467=>(intro w q;obtain ⟨m7',v0',v1',hl⟩:=PR26.out w q;go_simp;try with_reducible rfl)
  refine layy ?_;refine' tkL 10 rfl ?h10_1468 ?_
  case h10_1468=>(intro w q;obtain ⟨m7',v0',v1',hl⟩:=PR26.out w q;go_simp;try with_reducible rfl)
  refine layy ?_;refine wpAnyR_done (by kernel_rfl) ?_ _;intro x1 _ Ex1;have E1:=Lib.hid (E0.out.trans Ex1);have v01:=(Ex1.cell zv 0).trans v0;have v11:=(Ex1.cell zv 1).trans v1;have m71:=(Ex1.cell zm 7).trans m7;have m41:=(Ex1.cell zm 4).trans m4;have zv1:=cell_lt v01;have zm1:=cell_lt m71;clear v0 v1 m7 m4 zv zm c7 c4 Ex1 E0;go_upto_region 4 with fail
  refine wp_region_any (by kernel_rfl) ?_;have PR27:=Lib.hid (fun (ww:World) (hSw:Ext x1 ww)=>And.intro ((hSw.cell zm1 7).trans m71) (And.intro ((hSw.cell zv1 0).trans v01) ((hSw.cell zv1 1).trans v11)));refine wpAny_to_X (S:=fun W=>Ext x1 W) (R:=Ext) 6 6 Ext.refl ?_ ?_ (by rfl)
  · exact Ext.drew exx
  refine' tkY 0 rfl ?h0_1469 ?_
  case h0_1469=>(intro w q;obtain ⟨m7',v0',v1'⟩:=PR27.out w q;go_simp;try with_reducible rfl)
  refine layy ?_;refine' tkY 1 rfl ?h1_1470 ?_
  case h1_1470=>(intro w q;obtain ⟨m7',v0',v1'⟩:=PR27.out w q;go_simp;try with_reducible rfl)
  refine layy ?_;refine' tkY 2 rfl ?h2_1471 ?_
  case h2_1471=>(intro w q;obtain ⟨m7',v0',v1'⟩:=PR27.out w q;go_simp;try with_reducible rfl)
  refine layy ?_;refine' tkY 3 rfl ?h3_1472 ?_
  case h3_1472=>(intro w q;obtain ⟨m7',v0',v1'⟩:=PR27.out w q;go_simp;try with_reducible rfl)
  refine layy ?_;refine' tkY 4 rfl ?h4_1473 ?_
  case h4_1473=>(intro w q;obtain ⟨m7',v0',v1'⟩:=PR27.out w q;go_simp;try with_reducible rfl)
  refine layy ?_;refine' tkY 5 rfl ?h5_1474 ?_
  case h5_1474=>(intro w q;obtain ⟨m7',v0',v1'⟩:=PR27.out w q;go_simp;try with_reducible rfl)
  refine layy ?_;refine wpAnyX_done (by kernel_rfl) ?_;intro x2 _ Ex2;simp only [List.drop_succ_cons,List.drop_zero];have E2:=Lib.hid (E1.out.trans Ex2);have v02:=(Ex2.cell zv1 0).trans v01;have v12:=(Ex2.cell zv1 1).trans v11;have m72:=(Ex2.cell zm1 7).trans m71;have m42:=(Ex2.cell zm1 4).trans m41;obtain ⟨w3,hup,hm3,ht3⟩:=PU.out x2 E2.out;have N2:=Lib.hid (H.out.ext' E2.out);have B3:But [i.ge] x2 w3:=(But.refl _ _).turned ht3 (.inl (by simp));have gvx:gv ∉ [i.ge]:=fun hm=>by have:=(H.out.lo i.ge (.inl (MkSt.in_e _ _ _))).2;rw [HGV.out] at this;rw [List.mem_singleton.1 hm] at this;omega
  have gmx:i.gm ∉ [i.ge]:=by simpa using H.out.nd.1
  have v03:=(B3.cell (cell_lt v02) gvx 0).trans v02;have v13:=(B3.cell (cell_lt v02) gvx 1).trans v12;have m43:=(B3.cell (cell_lt m72) gmx 4).trans m42;have m73:=(B3.cell (cell_lt m72) gmx 7).trans m72;have ER:=Lib.hid (N2.out.e.er.but B3 (fun b o e hm=>(N2.out.ndp b (mem_blk e)).2.1 (List.mem_singleton.1 hm)));have fz4:=(B3.frozen (cell_lt m72) gmx 4).trans (N2.out.c.z 4);have HB3:=Lib.hid B3;have HM3:=Lib.hid hm3;clear v01 v11 m71 m41 zv1 zm1 v02 v12 m72 m42 Ex2 ht3 gvx gmx B3 hm3;go_upto_region 5 with fail
  clear hup;refine wp_region_any (by kernel_rfl) ?_;refine wpAny_to_X (S:=(fun W:World=>W.cell? ⟨gv,0,none⟩=some (.int .u8 f) ∧ W.cell? ⟨gv,1,none⟩=some (.int .i64 n) ∧ W.cell? ⟨i.gm,4,none⟩=some (.slice pe ne ce))) (R:=Eq) 12 12 (fun _=>rfl) (by exact ⟨v03,v13,m43⟩) ?_ (by rfl);refine' tkE 0 rfl ?hy0_1475 ?_
  case hy0_1475=>(intro w _;go_simp;try with_reducible rfl)
  refine layy ?_;refine' tkE 1 rfl ?hy1_1476 ?_
  case hy1_1476=>(intro w _;go_simp;try with_reducible rfl)
  refine layy ?_;refine' tkE 2 rfl ?hy2_1477 ?_
  case hy2_1477=>(intro w _;go_simp;try with_reducible rfl)
  refine layy ?_;refine' tkE 3 rfl ?hy3_1478 ?_
  case hy3_1478=>(intro w _;go_simp;try with_reducible rfl)
  refine layy ?_;refine' tkE 4 rfl ?hy4_1479 ?_
  case hy4_1479=>(intro w _;go_simp;try with_reducible rfl)
  refine layy ?_;refine' tkE 5 rfl ?hy5_1480 ?_
  case hy5_1480=>(intro w hSw;(obtain ⟨q1,q2,q3⟩:=hSw);go_simp;try with_reducible rfl)
  refine layy ?_;refine' tkE 6 rfl ?hy6_1481 ?_
  case hy6_1481=>(intro w hSw;(obtain ⟨q1,q2,q3⟩:=hSw);go_simp;try with_reducible rfl)
  refine layy ?_;have W3:=Lib.hid (show Ext w3 (World.drew w3) from Ext.drew (Ext.refl w3));change wpAnyX _ _ _ _ _ _ _ _ _ _ _ (World.drew w3);have vd0:=(W3.out.cell (cell_lt v03) 0).trans v03;have vd1:=(W3.out.cell (cell_lt v03) 1).trans v13;have md4:=(W3.out.cell (cell_lt m43) 4).trans m43;generalize World.drew w3=wd at W3 vd0 vd1 md4 ⊢;refine wpAnyX_fork [7] (by kernel_rfl) (by simp) (by simp) ?_;intro i7 hi7;obtain rfl:i7=7:=by simpa using hi7
  have A4:Ext wd (wd.alloc (.cells #[.int .u8 f,.int .i64 n] 43)):=Ext.alloc (Ext.refl wd) _;have va0:=(A4.cell (cell_lt vd0) 0).trans vd0;have va1:=(A4.cell (cell_lt vd0) 1).trans vd1;have ma4:=(A4.cell (cell_lt md4) 4).trans md4;have e0:(wd.alloc (.cells #[.int .u8 f,.int .i64 n] 43)).cell? ⟨wd.heap.size,0,none⟩=some (.int .u8 f):=by go_simp
  have e1:(wd.alloc (.cells #[.int .u8 f,.int .i64 n] 43)).cell? ⟨wd.heap.size,1,none⟩=some (.int .i64 n):=by go_simp
  refine wpOp_value (i:=7) (v:=.slice (some ⟨wd.heap.size,0,none⟩) 1 1) (w'':=wd.alloc (.cells #[.int .u8 f,.int .i64 n] 43)) rfl (by rfl) (by go_simp) ⟨⟨va0,va1,ma4⟩, ?_⟩;refine layy ?_;have W4:=Lib.hid (W3.out.trans A4);clear v03 v13 m43 m73 vd0 vd1 md4 A4;generalize wd.heap.size=gt at e0 e1 ⊢;generalize wd.alloc (.cells #[.int .u8 f,.int .i64 n] 43)=w4 at *;refine wpAnyX_fork [8] (by kernel_rfl) (by simp) (by simp) ?_;intro i8 hi8;obtain rfl:i8=8:=by simpa using hi8
  refine wpOp_append_N (i:=8) (.tmp 35) (.tmp 37) 46 43 rfl rfl (by rfl) (z:=.agg #[.int .u8 0,.int .i64 0]) (n:=2) (bytes:=16) Tryz.underlying46 (by kernel_rfl) rfl (by decide) (by decide) (m:=ne) (by rw [List.length_map,HNE.out]) rfl rfl (ER.out.ext W4.out) (y:=endC (f,n)) rfl (cells2 e0 e1) (by simp [endC,Value.oneCell']) (by omega) ?_;intro g cap w5 row hR hG hrow hg hlt;have ge4:i.gm ∉ blk pe:=fun hm=>(N2.out.ndp _ hm).1 rfl
  have k5:But (blk pe) w4 w5:=⟨hG.os,hG.tape,hG.output,hG.size,fun j hj hn=>hG.block j hj fun e=>hn (by rw [hrow j e.symm];simp [blk])⟩
  have gve:gv ∉ blk pe:=fun hm=>by have:=(H.out.lo _ (.inl (MkSt.in_pe _ _ _ hm))).2;rw [HGV.out] at this;omega
  have v05:=(k5.cell (cell_lt va0) gve 0).trans va0;have v15:=(k5.cell (cell_lt va0) gve 1).trans va1;have m45:=(k5.cell (cell_lt ma4) ge4 4).trans ma4;have fz5:=(k5.frozen (cell_lt ma4) ge4 4).trans ((W4.out.frozen (by have:=HB3.out.size;have:=(N2.out.lo i.gm (.inl (MkSt.in_m _ _ _))).2;omega) 4).trans fz4);have NB:=Lib.hid (N2.out.end_ (v:=(f,n)) (HB3.out.trans (But.ofExt W4.out)) (HM3.out.ext W4.out) hR hG hrow hg hlt);rw [HNE.out] at NB;refine ⟨⟨v05,v15,m45⟩, ?_⟩;refine layy ?_;clear hR hG hrow hg hlt k5 va0 va1 ma4 e0 e1 ge4 gve
  skip
  refine' tkE 9 rfl ?hy9_1482 ?_
  case hy9_1482=>(intro w _;go_simp;try with_reducible rfl)
  refine layy ?_;refine' tkE 10 rfl ?hy10_1483 ?_
  case hy10_1483=>(intro w _;go_simp;try with_reducible rfl)
  refine layy ?_;refine' tkE 11 rfl ?hy11_1484 ?_
  case hy11_1484=>(intro w _;go_simp;try with_reducible rfl)
  refine layy ?_;refine wpAnyX_done (by kernel_rfl) ?_;intro w9 e9 _;subst e9;simp only [List.drop_succ_cons,List.drop_zero]
  go_wp2_with (go_at_call 198;refine (NE.out _).mono ?_;rintro e w9 ⟨rfl,hb9⟩;obtain ⟨hc9,hf9,hs9⟩:=hb9.cells)
  go_returns;obtain ⟨N6,B6,GI⟩:=NB.out;refine ⟨rfl,_,_,_,_,N6.ext' hb9, ?_, ?_⟩
  · have b1:But (i.dyn pe pn) w x2:=But.ofExt E2.out;exact (b1.trans (B6.mono (l':=i.dyn pe pn) (fun x hx=>by
     rcases List.mem_cons.1 hx with rfl | hx
     · exact MkSt.in_m _ _ _
     · rcases List.mem_cons.1 hx with rfl | hx
       · exact MkSt.in_e _ _ _
       · exact MkSt.in_pe _ _ _ hx))).trans (But.ofExt hb9)
  · intro b hb;have l2:=E2.out.le;simp only [Mkr.dyn,blk,List.mem_cons,List.mem_append,List.not_mem_nil,or_false] at hb
    rcases hb with hb | hb | hb | hb | hb
    · exact .inl (by rw [hb];exact MkSt.in_m _ _ _)
    · exact .inl (by rw [hb];exact MkSt.in_e _ _ _)
    · exact .inl (by rw [hb];exact MkSt.in_n _ _ _)
    · rw [hb]
      rcases GI with h | h
      · exact .inl (MkSt.in_pe _ _ _ h)
      · exact .inr (by omega)
    · exact .inl (MkSt.in_pn _ _ _ hb)
theorem mkNode1 {w:World} {gb m:Nat} {p:Option Addr} {c:Nat} {ks:List Int} (hb:w.cell? ⟨gb,0,none⟩=some (.slice p ks.length c)) (hs:SliceAt w p c ks) (h0:0 < ks.length) (x:Int) :
    Calls Tryz.prog 216 #[.int .i64 x,.pointer (some ⟨gb,0,none⟩)] w fun e w'=>e = .returned (.bool (x == ks.headD 0)) ∧ Ext w w':=by
  obtain ⟨b,o,rfl,hb',hc⟩:=hs.cells h0;obtain ⟨k0,hk⟩:=rd_get (l:=ks) (j:=0) h0;have g0:=hc 0 k0 hk;have e:ks.headD 0=k0:=by
   cases ks with
   | nil=>simp at h0
   | cons a r=>simpa [Hp.rd] using hk
  rw [e];have hle:=hs.le;have hcap:=hs.cap;have tp:decide ((0:Int) < (ks.length:Int))=true:=decide_eq_true (by omega);clear e hk hc hs;generalize ks.length=n at *;rw [Nat.add_zero] at g0;go_enter Tryz.func216,Tryz.ntmps216
  go_wp2_with fail
  go_returns;exact ⟨rfl,exx⟩
theorem mkAll {w:World} {g0 c0:Nat} {ks:List Int} (hs:SliceAt w (some ⟨g0,0,none⟩) c0 ks) (h0:0 < ks.length) {b:Bool} (hf:Nd.flat ks=b) (t:TypeId) (W:World) (hE:Ext (w.alloc (.cells #[.slice (some ⟨g0,0,none⟩) ks.length c0] t)) W) :
    Calls Tryz.prog 189 #[.slice (some ⟨g0,0,none⟩) ks.length c0,.func (.func 216) #[] #[.pointer (some ⟨w.heap.size,0,none⟩)]] W fun e w'=>e = .returned (.bool b) ∧ Ext W w':=by
  have c1:(w.alloc (.cells #[.slice (some ⟨g0,0,none⟩) ks.length c0] t)).cell? ⟨w.heap.size,0,none⟩=some (.slice (some ⟨g0,0,none⟩) ks.length c0):=by go_simp
  have EE:Ext w (w.alloc (.cells #[.slice (some ⟨g0,0,none⟩) ks.length c0] t)):=Ext.alloc (Ext.refl w) _;refine nAll (is:=fun k=>k == ks.headD 0) (first:=#[]) (enters_of Tryz.func216 (by kernel_rfl) rfl) (hs.ext (EE.trans hE)) (fun j x _ _ W' hW=>?_) hf;exact mkNode1 (m:=0) ((hW.cell (Nat.lt_of_lt_of_le (cell_lt c1) hE.le) 0).trans ((hE.cell (cell_lt c1) 0).trans c1)) (hs.ext ((EE.trans hE).trans hW)) h0 x
set_option maxHeartbeats 4000000 in
theorem mkNode_flat {w:World} {gm g0 c0:Nat} {ks:List Int} {c:Int} (hs:SliceAt w (some ⟨g0,0,none⟩) c0 ks) (h0:0 < ks.length) (hf:Nd.flat ks=true) :
    Calls Tryz.prog 199 #[.pointer (some ⟨gm,0,none⟩),.int .i64 c,.slice (some ⟨g0,0,none⟩) ks.length c0] w fun e w'=>e = .returned (.int .i64 (ks.headD 0)) ∧ Ext w w':=by
  have AL:=Lib.hid (fun t W hE=>mkAll hs h0 hf t W hE);obtain ⟨b,o,e0,hb',hc⟩:=hs.cells h0
  cases e0
  obtain ⟨k0,hk⟩:=rd_get (l:=ks) (j:=0) h0;have q0:=hc 0 k0 hk;have e:ks.headD 0=k0:=by
   cases ks with
   | nil=>simp at h0
   | cons a r=>simpa [Hp.rd] using hk
  rw [e];have hle:=hs.le;have hcap:=hs.cap;have tp:decide ((0:Int) < (ks.length:Int))=true:=decide_eq_true (by omega);have zq:=cell_lt q0;clear e hk hc hs hf;generalize ks.length=n at *;rw [Nat.add_zero] at q0;go_enter Tryz.func199,Tryz.ntmps199
  go_wp2_with (go_at_call 189;refine (AL.out _ _ (exx)).mono ?_;rintro e w1 ⟨rfl,hb1⟩;obtain ⟨hc1,hf1,hs1⟩:=hb1.cells;have hz1_0:w.heap.size < w1.heap.size:=(by have h:=hb1.le;(try simp at h);omega);have hc1_0:=hb1.cell (b:=w.heap.size) (by first | omega | (simp;done) | (simp;omega));have hf1_0:=hb1.frozen (b:=w.heap.size) (by first | omega | (simp;done) | (simp;omega)))
  go_returns;exact ⟨rfl,exx⟩
theorem key_copied {w:World} {cb gs os cp:Nat} {t:Int} {fs:List Int} (hg:w.heap[cb]? = some (.cells (ints (t :: List.replicate 12 0)).toArray 204 (0,0))) (hs:SliceAt w (some ⟨gs,os,none⟩) cp fs) (h0:0 < fs.length) (h12:fs.length ≤ 12) :
    ∃ x,(∀ ty,(Builtin.copy_ #[22,22] ty #[.slice (some ⟨cb,1,none⟩) 12 12,.slice (some ⟨gs,os,none⟩) fs.length cp]).run Tryz.prog w = .ok (goInt (fs.length:Nat)) x) ∧ x.heap[cb]? = some (.cells (ints (t :: (fs ++ List.replicate (12-fs.length) 0))).toArray 204 (0,0)) ∧ But [cb] w x:=by
  obtain ⟨b,o,e,hb,hc⟩:=hs.cells h0
  cases e
  refine ⟨w.setRow cb (ints (t :: (fs ++ List.replicate (12-fs.length) 0))).toArray,fun ty=>?_,setRow_heap w cb _ _ _ _ hg,(But.refl _ _).setRow (.inl (by simp)) _⟩;have hm:Nat.min fs.length 12=fs.length:=Nat.min_eq_left h12;have:=run_copy_rowK (P:=Tryz.prog) w 22 22 ty 3 1 cb 1 12 12 ⟨gs,os,none⟩ fs.length cp _ 204 (ints fs) Tryz.underlying22 (by kernel_rfl) hg (by rw [hm];simp [ints]) (fun j v hj=>by
   rw [Addr.add_lit];obtain ⟨hj1,hj2⟩:=List.getElem?_eq_some_iff.1 hj;have hj3:j < fs.length:=by simpa [ints] using hj1
   rw [hc j fs[j] (List.getElem?_eq_getElem hj3),← hj2];simp [ints]) (by simp [ints];omega) (fun v hv=>by
   obtain ⟨x,_,rfl⟩:=List.mem_map.1 hv;rfl)
  have e:((ints (t :: List.replicate 12 0)).toArray.toList.take 1 ++ ints fs ++ (ints (t :: List.replicate 12 0)).toArray.toList.drop (1+(ints fs).length))=ints (t :: (fs ++ List.replicate (12-fs.length) 0)):=by
   rw [List.toList_toArray,ints_length,Nat.add_comm 1];show [Value.int .i64 t] ++ ints fs ++ List.drop fs.length (ints (List.replicate 12 0))=Value.int .i64 t :: ints (fs ++ List.replicate (12-fs.length) 0);unfold ints;rw [List.map_append,List.map_replicate,List.map_replicate,List.drop_replicate,List.append_assoc];rfl
  rw [hm,e] at this;exact this
end Go.Proofs.YtdokmmhjmclmnaaGreat
