/-
  Part 30 of a proof: LD5 LD6 LD7 LD8.
-/
import Derived.Test.YtdokmmhjmclmnaaGreatMB12
import Derived.Test.YtdokmmhjmclmnaaGreatMB14
import Derived.Test.YtdokmmhjmclmnaaGreatMB28
import Derived.Test.YtdokmmhjmclmnaaGreatMB29
set_option linter.unusedSimpArgs false
set_option linter.unusedVariables false
set_option linter.unusedSectionVars false
set_option linter.unnecessarySimpa false
namespace Go.Proofs.YtdokmmhjmclmnaaGreat
open Go.RowKit Go.Maps
structure Dd where
 hb:Nat
 kb:Nat
 hx:Nat
 gd:Nat
 fb:Nat
 gk:Nat
 v0:Value
 v1:Value
 v4:Value
def Dd.dyn (i:Dd) (pe pn:Option Addr):List Nat:=i.gk :: i.gd :: (blk pe ++ blk pn)
def Dd.fixed (i:Dd):List Nat:=[i.kb,i.hx,i.fb]
def Dd.fv (i:Dd):Value:=.func (.func 81) #[] #[.pointer (some ⟨i.kb,0,none⟩),.pointer (some ⟨i.hx,0,none⟩),.pointer (some ⟨i.gd,0,none⟩),.pointer (some ⟨i.fb,0,none⟩)]
structure DgSt (wb w:World) (i:Dd) (D:Hp.Dg) (pe:Option Addr) (ce:Nat) (pn:Option Addr) (cn:Nat) (K:List (Nat × Nat)):Prop where
 ext:Ext wb w
 k:w.cell? ⟨i.kb,0,none⟩=some (.map (some i.gk))
 h:w.cell? ⟨i.hx,0,none⟩=some (.pointer (some ⟨i.hb,0,none⟩))
 f:w.cell? ⟨i.fb,0,none⟩=some i.fv
 d2:w.cell? ⟨i.gd,2,none⟩=some (.slice pe D.ends.length ce)
 d3:w.cell? ⟨i.gd,3,none⟩=some (.slice pn D.nodes.length cn)
 d0:w.cell? ⟨i.gd,0,none⟩=some i.v0
 d1:w.cell? ⟨i.gd,1,none⟩=some i.v1
 d4:w.cell? ⟨i.gd,4,none⟩=some i.v4
 z:∀ o,w.frozen? ⟨i.gd,o,none⟩=false
 z2:w.frozen? ⟨i.gd,2,none⟩=false
 z3:w.frozen? ⟨i.gd,3,none⟩=false
 map:MapIAt Tryz.prog w i.gk D.known
 er:RowN w 2 43 pe ce (D.ends.map endC)
 nr:RowN w 2 41 pn cn (List.zipWith (fun q k=>nodeC q (some ⟨k.1,0,none⟩,k.2)) D.nodes K)
 kl:K.length=D.nodes.length
 ks:∀ (j:Nat) (q:Int × List Int) (k:Nat × Nat),D.nodes[j]? = some q → K[j]? = some k → SliceAt w (some ⟨k.1,0,none⟩) k.2 q.2
 lo:∀ b ∈ i.fixed ++ i.dyn pe pn ++ K.map Prod.fst,wb.heap.size ≤ b ∧ b < w.heap.size
 fx:∀ b ∈ i.fixed,b ∉ i.dyn pe pn ∧ b ∉ K.map Prod.fst
 kx:∀ k ∈ K,k.1 ∉ i.dyn pe pn
 nd:i.gk ≠ i.gd ∧ i.gk ∉ blk pe ∧ i.gk ∉ blk pn ∧ i.gd ∉ blk pe ∧ i.gd ∉ blk pn ∧ ∀ b ∈ blk pe,b ∉ blk pn
namespace DgSt
variable {wb w w':World} {i:Dd} {D:Hp.Dg} {pe pn:Option Addr} {ce cn:Nat} {K:List (Nat × Nat)}
theorem gk_dyn (i:Dd) (pe pn:Option Addr):i.gk ∈ i.dyn pe pn:=by simp [Dd.dyn]
theorem gd_dyn (i:Dd) (pe pn:Option Addr):i.gd ∈ i.dyn pe pn:=by simp [Dd.dyn]
theorem pe_dyn (i:Dd) {pe pn:Option Addr} {b:Nat} (h:b ∈ blk pe):b ∈ i.dyn pe pn:=by simp [Dd.dyn,h]
theorem pn_dyn (i:Dd) {pe pn:Option Addr} {b:Nat} (h:b ∈ blk pn):b ∈ i.dyn pe pn:=by simp [Dd.dyn,h]
theorem far (h:DgSt wb w i D pe ce pn cn K) {l:List Nat} (k:But l w w') (hw:∀ b ∈ l,wb.heap.size ≤ b) (hl:∀ b ∈ l,b ∉ i.fixed ∧ b ∉ i.dyn pe pn ∧ b ∉ K.map Prod.fst):DgSt wb w' i D pe ce pn cn K:=by
 have f1:∀ b ∈ i.fixed,b ∉ l:=fun b hb hm=>(hl b hm).1 hb
 have f2:∀ b ∈ i.dyn pe pn,b ∉ l:=fun b hb hm=>(hl b hm).2.1 hb
 have kk:i.kb ∉ l:=f1 _ (by simp [Dd.fixed])
 have kh:i.hx ∉ l:=f1 _ (by simp [Dd.fixed])
 have kf:i.fb ∉ l:=f1 _ (by simp [Dd.fixed])
 have kd:i.gd ∉ l:=f2 _ (gd_dyn _ _ _)
 exact
  { ext:=k.toExt h.ext hw
    k:=(k.cell (cell_lt h.k) kk 0).trans h.k
    h:=(k.cell (cell_lt h.h) kh 0).trans h.h
    f:=(k.cell (cell_lt h.f) kf 0).trans h.f
    d2:=(k.cell (cell_lt h.d2) kd 2).trans h.d2
    d3:=(k.cell (cell_lt h.d3) kd 3).trans h.d3
    d0:=(k.cell (cell_lt h.d2) kd 0).trans h.d0
    d1:=(k.cell (cell_lt h.d2) kd 1).trans h.d1
    d4:=(k.cell (cell_lt h.d2) kd 4).trans h.d4
    z:=fun o=>(k.frozen (cell_lt h.d2) kd o).trans (h.z o)
    z2:=(k.frozen (cell_lt h.d2) kd 2).trans h.z2
    z3:=(k.frozen (cell_lt h.d2) kd 3).trans h.z3
    map:=h.map.but k (f2 _ (gk_dyn _ _ _))
    er:=h.er.but k fun b o e=>f2 _ (pe_dyn _ (mem_blk e))
    nr:=h.nr.but k fun b o e=>f2 _ (pn_dyn _ (mem_blk e))
    kl:=h.kl
    ks:=fun j q kk hq hk=>(h.ks j q kk hq hk).but k fun b o e hm=>by
     cases e
     exact (hl _ hm).2.2 (List.mem_map.2 ⟨kk,List.mem_of_getElem? hk,rfl⟩)
    lo:=fun b hb=>⟨(h.lo b hb).1,Nat.lt_of_lt_of_le (h.lo b hb).2 k.size⟩
    fx:=h.fx
    kx:=h.kx
    nd:=h.nd }
theorem ext' (h:DgSt wb w i D pe ce pn cn K) (k:Ext w w'):DgSt wb w' i D pe ce pn cn K:=h.far (l:=[]) (But.ofExt k) (by simp) (by simp)
theorem known_ (h:DgSt wb w i D pe ce pn cn K) (k:But [i.gk] w w') {M:List (Nat × Int)} (hm:MapIAt Tryz.prog w' i.gk M):DgSt wb w' i { D with known:=M } pe ce pn cn K:=by
 have hg:wb.heap.size ≤ i.gk:=(h.lo i.gk (by simp [Dd.dyn])).1
 have f1:∀ b ∈ i.fixed,b ∉ [i.gk]:=fun b hb hm=>by
  rw [List.mem_singleton.1 hm] at hb;exact (h.fx _ hb).1 (gk_dyn _ _ _)
 have kd:i.gd ∉ [i.gk]:=fun hm=>h.nd.1 (List.mem_singleton.1 hm).symm
 exact
  { ext:=k.toExt h.ext (fun b hb=>by rw [List.mem_singleton.1 hb];exact hg)
    k:=(k.cell (cell_lt h.k) (f1 _ (by simp [Dd.fixed])) 0).trans h.k
    h:=(k.cell (cell_lt h.h) (f1 _ (by simp [Dd.fixed])) 0).trans h.h
    f:=(k.cell (cell_lt h.f) (f1 _ (by simp [Dd.fixed])) 0).trans h.f
    d2:=(k.cell (cell_lt h.d2) kd 2).trans h.d2
    d3:=(k.cell (cell_lt h.d3) kd 3).trans h.d3
    d0:=(k.cell (cell_lt h.d2) kd 0).trans h.d0
    d1:=(k.cell (cell_lt h.d2) kd 1).trans h.d1
    d4:=(k.cell (cell_lt h.d2) kd 4).trans h.d4
    z:=fun o=>(k.frozen (cell_lt h.d2) kd o).trans (h.z o)
    z2:=(k.frozen (cell_lt h.d2) kd 2).trans h.z2
    z3:=(k.frozen (cell_lt h.d2) kd 3).trans h.z3
    map:=hm
    er:=h.er.but k fun b o e hm=>h.nd.2.1 (by rw [← List.mem_singleton.1 hm];exact mem_blk e)
    nr:=h.nr.but k fun b o e hm=>h.nd.2.2.1 (by rw [← List.mem_singleton.1 hm];exact mem_blk e)
    kl:=h.kl
    ks:=fun j q kk hq hk=>(h.ks j q kk hq hk).but k fun b o e hm=>by
     cases e
     have:=h.kx kk (List.mem_of_getElem? hk);rw [List.mem_singleton.1 hm] at this;exact this (gk_dyn _ _ _)
    lo:=fun b hb=>⟨(h.lo b hb).1,Nat.lt_of_lt_of_le (h.lo b hb).2 k.size⟩
    fx:=h.fx
    kx:=h.kx
    nd:=h.nd }
theorem grown (h:DgSt wb w i D pe ce pn cn K) {row:Option Nat} (hG:w.grownBy w' row) {p0:Option Addr} (hrow:∀ r,row=some r → p0=some ⟨r,0,none⟩) (o:Nat) (v:Value) :
    But (i.gd :: blk p0) w (w'.setCell ⟨i.gd,o,none⟩ v):=by
  have k1:But (i.gd :: blk p0) w w':=⟨hG.os,hG.tape,hG.output,hG.size,fun j hj hn=>hG.block j hj fun e=>hn (by rw [hrow j e.symm];simp [blk])⟩
  exact k1.setCell (.inl (by simp)) _
theorem store2 (h:DgSt wb w i D pe ce pn cn K) {row:Option Nat} (hG:w.grownBy w' row) (hrow:∀ r,row=some r → pe=some ⟨r,0,none⟩):w'.cell? ⟨i.gd,2,none⟩=some (.slice pe D.ends.length ce) ∧ w'.frozen? ⟨i.gd,2,none⟩=false:=by
 have k1:But (blk pe) w w':=⟨hG.os,hG.tape,hG.output,hG.size,fun j hj hn=>hG.block j hj fun e=>hn (by rw [hrow j e.symm];simp [blk])⟩
 exact ⟨(k1.cell (cell_lt h.d2) h.nd.2.2.2.1 2).trans h.d2,(k1.frozen (cell_lt h.d2) h.nd.2.2.2.1 2).trans h.z2⟩
theorem store3 (h:DgSt wb w i D pe ce pn cn K) {row:Option Nat} (hG:w.grownBy w' row) (hrow:∀ r,row=some r → pn=some ⟨r,0,none⟩):w'.cell? ⟨i.gd,3,none⟩=some (.slice pn D.nodes.length cn) ∧ w'.frozen? ⟨i.gd,3,none⟩=false:=by
 have k1:But (blk pn) w w':=⟨hG.os,hG.tape,hG.output,hG.size,fun j hj hn=>hG.block j hj fun e=>hn (by rw [hrow j e.symm];simp [blk])⟩
 exact ⟨(k1.cell (cell_lt h.d2) h.nd.2.2.2.2.1 3).trans h.d3,(k1.frozen (cell_lt h.d2) h.nd.2.2.2.2.1 3).trans h.z3⟩
theorem end_ (h:DgSt wb w i D pe ce pn cn K) {g cap:Nat} {row:Option Nat} {v:Int × Int} (hR:RowN w' 2 43 (some ⟨g,0,none⟩) cap (D.ends.map endC ++ [endC v])) (hG:w.grownBy w' row) (hrow:∀ r,row=some r → pe=some ⟨r,0,none⟩) (hg:pe=some ⟨g,0,none⟩ ∨ g=w.heap.size) (hlt:g < w'.heap.size) :
    DgSt wb (w'.setCell ⟨i.gd,2,none⟩ (.slice (some ⟨g,0,none⟩) (D.ends.length+1) cap)) i { D with ends:=D.ends ++ [v] } (some ⟨g,0,none⟩) cap pn cn K ∧ But (i.gd :: blk pe) w (w'.setCell ⟨i.gd,2,none⟩ (.slice (some ⟨g,0,none⟩) (D.ends.length+1) cap)):=by
  have kb:=h.grown hG hrow 2 (.slice (some ⟨g,0,none⟩) (D.ends.length+1) cap);refine ⟨?_,kb⟩;have k1:But (blk pe) w w':=⟨hG.os,hG.tape,hG.output,hG.size,fun j hj hn=>hG.block j hj fun e=>hn (by rw [hrow j e.symm];simp [blk])⟩
  have hd2:w'.cell? ⟨i.gd,2,none⟩=some (.slice pe D.ends.length ce):=by
   have k1:But (blk pe) w w':=⟨hG.os,hG.tape,hG.output,hG.size,fun j hj hn=>hG.block j hj fun e=>hn (by rw [hrow j e.symm];simp [blk])⟩
   exact (k1.cell (cell_lt h.d2) h.nd.2.2.2.1 2).trans h.d2
  have hz2:w'.frozen? ⟨i.gd,2,none⟩=false:=by
   have k1:But (blk pe) w w':=⟨hG.os,hG.tape,hG.output,hG.size,fun j hj hn=>hG.block j hj fun e=>hn (by rw [hrow j e.symm];simp [blk])⟩
   exact (k1.frozen (cell_lt h.d2) h.nd.2.2.2.1 2).trans h.z2
  have gnew:∀ b,b < w.heap.size → b ∉ blk pe → b ≠ g:=fun b hb hn e=>by
   subst e
   rcases hg with hg | hg
   · exact hn (by rw [hg];simp [blk])
   · omega
  have hgd:=h.lo i.gd (by simp [Dd.dyn]);have hgk:=h.lo i.gk (by simp [Dd.dyn]);have notl:∀ b,b ≠ i.gd → b ∉ blk pe → b ∉ i.gd :: blk pe:=fun b h1 h2 hm=>by
   rcases List.mem_cons.1 hm with e | e
   · exact h1 e
   · exact h2 e
  have fxl:∀ b ∈ i.fixed,b ∉ i.gd :: blk pe:=fun b hb=>notl b (fun e=>(h.fx b hb).1 (by rw [e];exact gd_dyn _ _ _)) (fun e=>(h.fx b hb).1 (pe_dyn _ e))
  have hw:wb.heap.size ≤ w.heap.size:=h.ext.le;have hww:=kb.size;have gkg:i.gk ≠ g:=gnew _ hgk.2 h.nd.2.1;have gdg:i.gd ≠ g:=gnew _ hgd.2 h.nd.2.2.2.1;have new:∀ b ∈ i.dyn (some ⟨g,0,none⟩) pn,b=g ∨ b ∈ i.dyn pe pn:=fun b hb=>by
   simp only [Dd.dyn,blk,List.mem_cons,List.mem_append,List.not_mem_nil,or_false] at hb ⊢
   rcases hb with hb | hb | hb | hb
   · exact .inr (.inl hb)
   · exact .inr (.inr (.inl hb))
   · exact .inl hb
   · exact .inr (.inr (.inr (.inr hb)))
  have klt:∀ k ∈ K,k.1 < w.heap.size:=fun k hk=>(h.lo k.1 (by simp only [List.mem_append,List.mem_map];exact .inr ⟨k,hk,rfl⟩)).2
  have sw:(w'.setCell ⟨i.gd,2,none⟩ (.slice (some ⟨g,0,none⟩) (D.ends.length+1) cap)).heap.size=w'.heap.size:=by simp [World.setCell]
  exact
   { ext:=kb.toExt h.ext fun b hb=>by
       rcases List.mem_cons.1 hb with rfl | hb
       · exact hgd.1
       · exact (h.lo b (by simp only [List.mem_append];exact .inl (.inr (pe_dyn _ hb)))).1
     k:=(kb.cell (cell_lt h.k) (fxl _ (by simp [Dd.fixed])) 0).trans h.k
     h:=(kb.cell (cell_lt h.h) (fxl _ (by simp [Dd.fixed])) 0).trans h.h
     f:=(kb.cell (cell_lt h.f) (fxl _ (by simp [Dd.fixed])) 0).trans h.f
     d2:=by
      rw [List.length_append];simp [go_sem,hd2]
     d3:=by
      have:w'.cell? ⟨i.gd,3,none⟩=some (.slice pn D.nodes.length cn):=by
       have k1:But (blk pe) w w':=⟨hG.os,hG.tape,hG.output,hG.size,fun j hj hn=>hG.block j hj fun e=>hn (by rw [hrow j e.symm];simp [blk])⟩
       exact (k1.cell (cell_lt h.d2) h.nd.2.2.2.1 3).trans h.d3
      simp [go_sem,this]
     d0:=by
      have:=(k1.cell (cell_lt h.d2) h.nd.2.2.2.1 0).trans h.d0;simp [go_sem,this]
     d1:=by
      have:=(k1.cell (cell_lt h.d2) h.nd.2.2.2.1 1).trans h.d1;simp [go_sem,this]
     d4:=by
      have:=(k1.cell (cell_lt h.d2) h.nd.2.2.2.1 4).trans h.d4;simp [go_sem,this]
     z:=fun o=>by
      have:=(k1.frozen (cell_lt h.d2) h.nd.2.2.2.1 o).trans (h.z o);simp [go_sem,this]
     z2:=by simp [go_sem,hz2]
     z3:=by
      have:w'.frozen? ⟨i.gd,3,none⟩=false:=by
       have k1:But (blk pe) w w':=⟨hG.os,hG.tape,hG.output,hG.size,fun j hj hn=>hG.block j hj fun e=>hn (by rw [hrow j e.symm];simp [blk])⟩
       exact (k1.frozen (cell_lt h.d2) h.nd.2.2.2.1 3).trans h.z3
      simp [go_sem,this]
     map:=h.map.but kb (notl _ h.nd.1 h.nd.2.1)
     er:=by
      rw [show (D.ends ++ [v]).map endC=D.ends.map endC ++ [endC v] by simp];exact hR.but (l:=[i.gd]) ((But.refl _ _).setCell (.inl (by simp)) _) fun b o e hm=>by
       cases e
       exact gdg (List.mem_singleton.1 hm).symm
     nr:=h.nr.but kb fun b o e=>notl b (fun e'=>h.nd.2.2.2.2.1 (by rw [← e'];exact mem_blk e)) (fun e'=>h.nd.2.2.2.2.2 b e' (mem_blk e))
     kl:=h.kl
     ks:=fun j q kk hq hk=>(h.ks j q kk hq hk).but kb fun b o e=>by
      cases e
      have:=h.kx kk (List.mem_of_getElem? hk);exact notl _ (fun e=>this (by rw [e];exact gd_dyn _ _ _)) (fun e=>this (pe_dyn _ e))
     lo:=fun b hb=>by
      rw [sw];simp only [List.mem_append] at hb
      rcases hb with (hb | hb) | hb
      · have:=h.lo b (by simp only [List.mem_append];exact .inl (.inl hb));exact ⟨this.1,Nat.lt_of_lt_of_le this.2 hG.size⟩
      · rcases new b hb with rfl | hb
        · rcases hg with hg | hg
          · have:=h.lo b (by simp only [List.mem_append];exact .inl (.inr (pe_dyn _ (mem_blk hg))));exact ⟨this.1,hlt⟩
          · exact ⟨by omega,hlt⟩
        · have:=h.lo b (by simp only [List.mem_append];exact .inl (.inr hb));exact ⟨this.1,Nat.lt_of_lt_of_le this.2 hG.size⟩
      · have:=h.lo b (by simp only [List.mem_append];exact .inr hb);exact ⟨this.1,Nat.lt_of_lt_of_le this.2 hG.size⟩
     fx:=fun b hb=>⟨fun hm=>by
      rcases new b hm with e | hm
      · exact gnew b (h.lo b (by simp only [List.mem_append];exact .inl (.inl hb))).2 (fun e=>(h.fx b hb).1 (pe_dyn _ e)) e
      · exact (h.fx b hb).1 hm,(h.fx b hb).2⟩
     kx:=fun k hk hm=>by
      rcases new _ hm with e | hm
      · exact gnew _ (klt k hk) (fun e=>h.kx k hk (pe_dyn _ e)) e
      · exact h.kx k hk hm
     nd:=⟨h.nd.1,by simpa [blk] using gkg,h.nd.2.2.1,by simpa [blk] using gdg,h.nd.2.2.2.2.1,fun b hb hm=>by
      have e:b=g:=by simpa [blk] using hb
      subst e
      rcases hg with hg | hg
      · exact h.nd.2.2.2.2.2 b (mem_blk hg) hm
      · have:=(h.lo b (by simp only [List.mem_append];exact .inl (.inr (pn_dyn _ hm)))).2;omega⟩ }
theorem node_ (h:DgSt wb w i D pe ce pn cn K) {g cap g0 c0:Nat} {row:Option Nat} {q:Int × List Int} (hR:RowN w' 2 41 (some ⟨g,0,none⟩) cap (List.zipWith (fun q k=>nodeC q (some ⟨k.1,0,none⟩,k.2)) D.nodes K ++ [nodeC q (some ⟨g0,0,none⟩,c0)])) (hG:w.grownBy w' row) (hrow:∀ r,row=some r → pn=some ⟨r,0,none⟩) (hg:pn=some ⟨g,0,none⟩ ∨ g=w.heap.size) (hlt:g < w'.heap.size)
    (hs:SliceAt w (some ⟨g0,0,none⟩) c0 q.2) (h0:wb.heap.size ≤ g0 ∧ g0 < w.heap.size) (h1:g0 ∉ i.fixed) (h2:g0 ∉ i.dyn pe pn) :
    DgSt wb (w'.setCell ⟨i.gd,3,none⟩ (.slice (some ⟨g,0,none⟩) (D.nodes.length+1) cap)) i { D with nodes:=D.nodes ++ [q] } pe ce (some ⟨g,0,none⟩) cap (K ++ [(g0,c0)]) ∧ But (i.gd :: blk pn) w (w'.setCell ⟨i.gd,3,none⟩ (.slice (some ⟨g,0,none⟩) (D.nodes.length+1) cap)):=by
  have kb:=h.grown hG hrow 3 (.slice (some ⟨g,0,none⟩) (D.nodes.length+1) cap);refine ⟨?_,kb⟩;have k1:But (blk pn) w w':=⟨hG.os,hG.tape,hG.output,hG.size,fun j hj hn=>hG.block j hj fun e=>hn (by rw [hrow j e.symm];simp [blk])⟩
  have hd3:w'.cell? ⟨i.gd,3,none⟩=some (.slice pn D.nodes.length cn):=(k1.cell (cell_lt h.d2) h.nd.2.2.2.2.1 3).trans h.d3;have hd2:w'.cell? ⟨i.gd,2,none⟩=some (.slice pe D.ends.length ce):=(k1.cell (cell_lt h.d2) h.nd.2.2.2.2.1 2).trans h.d2;have hz2:w'.frozen? ⟨i.gd,2,none⟩=false:=(k1.frozen (cell_lt h.d2) h.nd.2.2.2.2.1 2).trans h.z2;have hz3:w'.frozen? ⟨i.gd,3,none⟩=false:=(k1.frozen (cell_lt h.d2) h.nd.2.2.2.2.1 3).trans h.z3;have gnew:∀ b,b < w.heap.size → b ∉ blk pn → b ≠ g:=fun b hb hn e=>by
   subst e
   rcases hg with hg | hg
   · exact hn (by rw [hg];simp [blk])
   · omega
  have hgd:=h.lo i.gd (by simp [Dd.dyn]);have hgk:=h.lo i.gk (by simp [Dd.dyn]);have notl:∀ b,b ≠ i.gd → b ∉ blk pn → b ∉ i.gd :: blk pn:=fun b h1 h2 hm=>by
   rcases List.mem_cons.1 hm with e | e
   · exact h1 e
   · exact h2 e
  have fxl:∀ b ∈ i.fixed,b ∉ i.gd :: blk pn:=fun b hb=>notl b (fun e=>(h.fx b hb).1 (by rw [e];exact gd_dyn _ _ _)) (fun e=>(h.fx b hb).1 (pn_dyn _ e))
  have hw:wb.heap.size ≤ w.heap.size:=h.ext.le;have gkg:i.gk ≠ g:=gnew _ hgk.2 h.nd.2.2.1;have gdg:i.gd ≠ g:=gnew _ hgd.2 h.nd.2.2.2.2.1;have new:∀ b ∈ i.dyn pe (some ⟨g,0,none⟩),b=g ∨ b ∈ i.dyn pe pn:=fun b hb=>by
   simp only [Dd.dyn,blk,List.mem_cons,List.mem_append,List.not_mem_nil,or_false] at hb ⊢
   rcases hb with hb | hb | hb | hb
   · exact .inr (.inl hb)
   · exact .inr (.inr (.inl hb))
   · exact .inr (.inr (.inr (.inl hb)))
   · exact .inl hb
  have klt:∀ k ∈ K,k.1 < w.heap.size:=fun k hk=>(h.lo k.1 (by simp only [List.mem_append,List.mem_map];exact .inr ⟨k,hk,rfl⟩)).2
  have sw:(w'.setCell ⟨i.gd,3,none⟩ (.slice (some ⟨g,0,none⟩) (D.nodes.length+1) cap)).heap.size=w'.heap.size:=by simp [World.setCell]
  have g0l:g0 ∉ i.gd :: blk pn:=notl _ (fun e=>h2 (by rw [e];exact gd_dyn _ _ _)) (fun e=>h2 (pn_dyn _ e));have mk:∀ b ∈ (K ++ [(g0,c0)]).map Prod.fst,b=g0 ∨ b ∈ K.map Prod.fst:=fun b hb=>by
   rw [List.map_append] at hb
   rcases List.mem_append.1 hb with hb | hb
   · exact .inr hb
   · exact .inl (by simpa using hb)
  exact
   { ext:=kb.toExt h.ext fun b hb=>by
       rcases List.mem_cons.1 hb with rfl | hb
       · exact hgd.1
       · exact (h.lo b (by simp only [List.mem_append];exact .inl (.inr (pn_dyn _ hb)))).1
     k:=(kb.cell (cell_lt h.k) (fxl _ (by simp [Dd.fixed])) 0).trans h.k
     h:=(kb.cell (cell_lt h.h) (fxl _ (by simp [Dd.fixed])) 0).trans h.h
     f:=(kb.cell (cell_lt h.f) (fxl _ (by simp [Dd.fixed])) 0).trans h.f
     d2:=by simp [go_sem,hd2]
     d3:=by
      rw [List.length_append];simp [go_sem,hd3]
     d0:=by
      have:=(k1.cell (cell_lt h.d2) h.nd.2.2.2.2.1 0).trans h.d0;simp [go_sem,this]
     d1:=by
      have:=(k1.cell (cell_lt h.d2) h.nd.2.2.2.2.1 1).trans h.d1;simp [go_sem,this]
     d4:=by
      have:=(k1.cell (cell_lt h.d2) h.nd.2.2.2.2.1 4).trans h.d4;simp [go_sem,this]
     z:=fun o=>by
      have:=(k1.frozen (cell_lt h.d2) h.nd.2.2.2.2.1 o).trans (h.z o);simp [go_sem,this]
     z2:=by simp [go_sem,hz2]
     z3:=by simp [go_sem,hz3]
     map:=h.map.but kb (notl _ h.nd.1 h.nd.2.2.1)
     er:=h.er.but kb fun b o e=>notl b (fun e'=>h.nd.2.2.2.1 (by rw [← e'];exact mem_blk e)) (fun e'=>h.nd.2.2.2.2.2 b (mem_blk e) e')
     nr:=by
      rw [show List.zipWith (fun (q:Int × List Int) (k:Nat × Nat)=>nodeC q (some ⟨k.1,0,none⟩,k.2)) (D.nodes ++ [q]) (K ++ [(g0,c0)])=List.zipWith (fun q k=>nodeC q (some ⟨k.1,0,none⟩,k.2)) D.nodes K ++ [nodeC q (some ⟨g0,0,none⟩,c0)] by rw [List.zipWith_append h.kl.symm];rfl];exact hR.but (l:=[i.gd]) ((But.refl _ _).setCell (.inl (by simp)) _) fun b o e hm=>by
       cases e
       exact gdg (List.mem_singleton.1 hm).symm
     kl:=by simp [h.kl]
     ks:=fun j q' kk hq hk=>by
      by_cases hj:j < D.nodes.length
      · rw [List.getElem?_append_left hj] at hq;rw [List.getElem?_append_left (by rw [h.kl];exact hj)] at hk;refine (h.ks j q' kk hq hk).but kb fun b o e=>?_
        cases e
        have:=h.kx kk (List.mem_of_getElem? hk);exact notl _ (fun e=>this (by rw [e];exact gd_dyn _ _ _)) (fun e=>this (pn_dyn _ e))
      · have ej:j=D.nodes.length:=by
          have:=(List.getElem?_eq_some_iff.1 hq).1;simp at this;omega
        subst ej;rw [List.getElem?_append_right (Nat.le_refl _),Nat.sub_self] at hq;rw [List.getElem?_append_right (by rw [h.kl];exact Nat.le_refl _),h.kl,Nat.sub_self] at hk
        cases hq
        cases hk
        exact hs.but kb fun b o e=>by
         cases e
         exact g0l
     lo:=fun b hb=>by
      rw [sw];simp only [List.mem_append] at hb
      rcases hb with (hb | hb) | hb
      · have:=h.lo b (by simp only [List.mem_append];exact .inl (.inl hb));exact ⟨this.1,Nat.lt_of_lt_of_le this.2 hG.size⟩
      · rcases new b hb with rfl | hb
        · rcases hg with hg | hg
          · have:=h.lo b (by simp only [List.mem_append];exact .inl (.inr (pn_dyn _ (mem_blk hg))));exact ⟨this.1,hlt⟩
          · exact ⟨by omega,hlt⟩
        · have:=h.lo b (by simp only [List.mem_append];exact .inl (.inr hb));exact ⟨this.1,Nat.lt_of_lt_of_le this.2 hG.size⟩
      · rcases mk b hb with rfl | hb
        · exact ⟨h0.1,Nat.lt_of_lt_of_le h0.2 hG.size⟩
        · have:=h.lo b (by simp only [List.mem_append];exact .inr hb);exact ⟨this.1,Nat.lt_of_lt_of_le this.2 hG.size⟩
     fx:=fun b hb=>⟨fun hm=>by
      rcases new b hm with e | hm
      · exact gnew b (h.lo b (by simp only [List.mem_append];exact .inl (.inl hb))).2 (fun e=>(h.fx b hb).1 (pn_dyn _ e)) e
      · exact (h.fx b hb).1 hm,fun hm=>by
      rcases mk b hm with rfl | hm
      · exact h1 hb
      · exact (h.fx b hb).2 hm⟩
     kx:=fun k hk hm=>by
      rcases List.mem_append.1 hk with hk | hk
      · rcases new _ hm with e | hm
        · exact gnew _ (klt k hk) (fun e=>h.kx k hk (pn_dyn _ e)) e
        · exact h.kx k hk hm
      · rw [List.mem_singleton.1 hk] at hm
        rcases new _ hm with e | hm
        · exact gnew _ h0.2 (fun e=>h2 (pn_dyn _ e)) e
        · exact h2 hm
     nd:=⟨h.nd.1,h.nd.2.1,by simpa [blk] using gkg,h.nd.2.2.2.1,by simpa [blk] using gdg,fun b hb hm=>by
      have e:b=g:=by simpa [blk] using hm
      subst e
      rcases hg with hg | hg
      · exact h.nd.2.2.2.2.2 b hb (mem_blk hg)
      · have:=(h.lo b (by simp only [List.mem_append];exact .inl (.inr (pe_dyn _ hb)))).2;omega⟩ }
end DgSt
open Go.RowKit Go.Maps
theorem MapIAt.lookOk {P:Program} {w:World} {g:Nat} {M:List (Nat × Int)} {t:TypeId} (h:MapIAt P w g M) (hk:P.underlying 3=some (.int .i64)) (ht:P.underlying t=some (.map 3 3)) (hz:(zeroValue 3).run P w = .ok (.int .i64 0) w) {k:Nat} (hk2:(k:Int) ≤ 9223372036854775807) :
    (Instr.lookup t (.map (some g)) (.int .i64 k) true).run P w = .ok (.tuple #[.int .i64 ((getI k M).getD 0),.bool (getI k M).isSome]) w:=by
  have wf:(Lit.int .i64 k).wf=true:=WalkArith.wf_i64 (by omega);obtain ⟨v,ps,hrun,hv⟩:=h.owns.look_ok (int_keyed hk) ht hz (plainElem_int hk (by decide)) (keyOf_int_mk hk wf);obtain ⟨c,rfl,hc,hwc⟩:=plainElem_int_inv hk hv;rw [hrun];have e1:Maps.has (mapOfI M) (.int .i64 k)=(getI k M).isSome:=by
   cases hh:(getI k M).isSome with
   | true=>exact (has_mapOfI M _).2 ⟨k,rfl,hh⟩
   | false=>
    cases hq:Maps.has (mapOfI M) (.int .i64 k) with
    | false=>rfl
    | true=>
     obtain ⟨n,e,hn⟩:=(has_mapOfI M _).1 hq;injection e with _ e
     have:n=k:=by omega
     subst this;rw [hh] at hn
     cases hn
  have e2:c=(getI k M).getD 0:=by
   simp only [Prod.mk.injEq] at hc;have hat:=hc.1;rw [at_mapOfI] at hat
   cases hg:getI k M with
   | none=>
    rw [hg] at hat;simp only at hat;injection hat with hat
    injection hat with _ hat
    exact hat.symm
   | some v=>
    rw [hg] at hat;simp only at hat;injection hat with hat
    injection hat with _ hat
    exact hat.symm
  rw [e1,e2]
theorem cells2 {w:World} {b:Nat} {x y:Value} (h0:w.cell? ⟨b,0,none⟩=some x) (h1:w.cell? ⟨b,1,none⟩=some y):∀ (i:Nat) (v:Value),[x,y][i]? = some v → w.cell? ⟨b,i,none⟩=some v
 | 0,v,h=>by simp at h;rw [← h];exact h0
 | 1,v,h=>by simp at h;rw [← h];exact h1
 | i+2,v,h=>by simp at h
def FromPost (wb w:World) (i:Dd) (l0:List Nat) (D1:Hp.Dg) (x:Int) (K0:List (Nat × Nat)) (e:Ending) (w':World):Prop:=
 e = .returned (.int .i64 x) ∧ ∃ pe ce pn cn K,DgSt wb w' i D1 pe ce pn cn K ∧ But l0 w w' ∧ (∀ b ∈ i.dyn pe pn,b ∈ l0 ∨ w.heap.size ≤ b) ∧ ∀ b ∈ K.map Prod.fst,b ∈ K0.map Prod.fst ∨ w.heap.size ≤ b
def Dd.args (i:Dd) (a:Nat):Array Value:=#[.int .i64 a,.pointer (some ⟨i.kb,0,none⟩),.pointer (some ⟨i.hx,0,none⟩),.pointer (some ⟨i.gd,0,none⟩),.pointer (some ⟨i.fb,0,none⟩)]
set_option maxRecDepth 100000 in
theorem from_known {wb w:World} {i:Dd} {D:Hp.Dg} {pe pn:Option Addr} {ce cn a:Nat} {K:List (Nat × Nat)} {x:Int} (h:DgSt wb w i D pe ce pn cn K) (ha:a ≤ 1000000) (hk:getI a D.known=some x) :
    Calls Tryz.prog 81 (i.args a) w (FromPost wb w i (i.dyn pe pn) D x K):=by
  have H:=Lib.hid h;have k1:=h.k;have hlk:=h.map.lookOk (t:=119) Tryz.underlying3 Tryz.underlying119 (Tryz.zeroValue3 w) (k:=a) (by omega);rw [hk] at hlk;simp only [Option.getD_some,Option.isSome_some] at hlk;clear h hk;unfold Dd.args;go_enter Tryz.func81,Tryz.ntmps81
  go_wp2_with fail
  go_returns;exact ⟨rfl,pe,ce,pn,cn,K,H.out,But.refl _ _,fun b hb=>.inl hb,fun b hb=>.inl hb⟩
set_option maxRecDepth 100000 in
set_option maxHeartbeats 8000000 in
theorem from_end {wb w:World} {d:Hd} {S:Hp.Hs} {B:Nat} {L:List Hp.Tl} {ch:Nat → List Nat} {i:Dd} {D:Hp.Dg} {pe pn:Option Addr} {ce cn a:Nat} {K:List (Nat × Nat)} (hA:HAt wb d S) (hw:Hp.Wf S B L ch) (hb:d.hb=i.hb) (h:DgSt wb w i D pe ce pn cn K) (ha:a ∈ S.taken) (hk:getI a D.known=none) (he:Hp.isEnd (Hp.ow S.words a)=true) (hn:D.known.length ≤ 100000) (hne:D.ends.length ≤ 100000) :
    Calls Tryz.prog 81 (i.args a) w (FromPost wb w i (i.dyn pe pn) ⟨putI a (-((D.ends.length:Int)+1)) D.known,D.ends ++ [(Hp.ow S.words a-20,Hp.ow S.words (a+4))],D.nodes⟩ (-((D.ends.length:Int)+1)) K):=by
  have pa:=hw.part ha;have hhi:=hw.hi;obtain ⟨f,hf⟩:∃ f:Nat,Hp.ow S.words a=20+f:=by
   simp only [Hp.isEnd,Hp.within,Bool.and_eq_true,decide_eq_true_eq] at he;exact ⟨(Hp.ow S.words a-20).toNat,by omega⟩
  have AT:=Lib.hid (fun W (hE:Ext w W)=>At_end_f ((hA.ext h.ext).ext hE) hw ha hf he);rw [show Hp.ow S.words a-20=(f:Int) by omega];obtain ⟨v,hv⟩:∃ v,Hp.ow S.words (a+4)=v:=⟨_,rfl⟩
  rw [hv] at AT ⊢;rw [hb] at AT;obtain ⟨ne,hne'⟩:∃ ne,D.ends.length=ne:=⟨_,rfl⟩
  have H:=Lib.hid h;have k1:=h.k;have k2:=h.h;have z1:=cell_lt k1;have z2:=cell_lt k2;have hlk:=h.map.lookOk (t:=119) Tryz.underlying3 Tryz.underlying119 (Tryz.zeroValue3 w) (k:=a) (by omega);rw [hk] at hlk;simp only [Option.getD_none,Option.isSome_none] at hlk;have HN:=Lib.hid hn;have NE:=Lib.hid hne';rw [hne'] at hne ⊢;clear h hA hw hb hf he hv hk hn hne';unfold Dd.args;go_enter Tryz.func81,Tryz.ntmps81;go_upto_region 5 with (go_at_call 22;refine (AT.out _ (exx)).mono ?_;rintro e w1 ⟨rfl,hb1⟩)
  refine cut_world (F:=fun W=>Hid (Ext w W) ∧ W.cell? ⟨w1.heap.size,0,none⟩=some (.int .i64 (-1)) ∧ W.cell? ⟨w1.heap.size+1,0,none⟩=some (.int .u8 f) ∧ W.cell? ⟨w1.heap.size+1,1,none⟩=some (.int .i64 v)) ⟨Lib.hid (exx), ?a1, ?a2, ?a3⟩ ?rest
  case a1=>go_simp
  case a2=>go_simp
  case a3=>go_simp
  case rest=>
  intro w2 ⟨E2,g1,g2,g3⟩;have N:=Lib.hid (H.out.ext' E2.out);clear hb1 k1 k2 hlk z1 z2;generalize w1.heap.size+1=bv at g2 g3 ⊢;generalize w1.heap.size=bb at g1 ⊢;have d2:=N.out.d2;have f2:=N.out.z2;rw [NE.out] at d2;have zd:=cell_lt d2;have zv:=cell_lt g2;go_upto_region 7 with (at_builtin;refine wpList_append_N rfl _ _ 46 43 rfl (z:=.agg #[.int .u8 0,.int .i64 0]) (n:=2) (bytes:=16) Tryz.underlying46 (by kernel_rfl) rfl (by decide) (by decide) (m:=ne) (by rw [List.length_map,NE.out]) rfl rfl (N.out.er.ext (exx)) (y:=endC ((f:Int),v)) rfl (cells2 (by go_simp) (by go_simp)) (by simp [endC,Value.oneCell']) (by omega) ?_;intro g cap w3 row hR hG hrow hg hlt;have Na:=N.out.ext' (show Ext w2 (w2.alloc (.cells #[.int .u8 f,.int .i64 v] 43)) from exx);obtain ⟨q2,r2⟩:=Na.store2 hG hrow;have NB:=Lib.hid (Na.end_ (v:=((f:Int),v)) hR hG hrow hg hlt);rw [NE.out] at NB;have GI:=Lib.hid (show g ∈ blk pe ∨ w2.heap.size ≤ g from hg.imp (fun e=>by rw [e];simp [blk]) (fun e=>by rw [e];simp));clear Na hR hG hrow hg hlt)
  obtain ⟨N4,B4⟩:=NB.out;refine cut_world (F:=fun W=>Hid (DgSt wb W i { D with ends:=D.ends ++ [((f:Int),v)] } (some ⟨g,0,none⟩) cap pn cn K ∧ But (i.gd :: blk pe) (w2.alloc (.cells #[.int .u8 f,.int .i64 v] 43)) W)) (Lib.hid ⟨N4,B4⟩) ?_;intro w4 NN;clear NB N4 B4 q2 r2;have k4:=NN.out.1.k;have d4:=NN.out.1.d2;simp only [List.length_append,List.length_cons,List.length_nil,NE.out,Nat.zero_add] at d4;have w1':wrap64 (-((ne:Int)+1)) = -((ne:Int)+1):=IntWalk.wrap64_in _ ⟨by omega,by omega⟩;have w2':IntKind.i64.wrap (-((ne:Int)+1)) = -((ne:Int)+1):=IntWalk.i64_in _ ⟨by omega,by omega⟩;obtain ⟨w5,hup,hm5,ht5⟩:=NN.out.1.map.put (t:=119) Tryz.underlying3 Tryz.underlying119 (by have:=HN.out;unfold maxLen;simp only;omega) (a:=a) (x:=-((ne:Int)+1)) (by omega) (by omega) (by omega);have B5:But [i.gk] w4 w5:=(But.refl _ _).turned ht5 (.inl (by simp));have N5:=Lib.hid (NN.out.1.known_ B5 hm5);have hlk:=N5.out.map.look (t:=119) Tryz.underlying3 Tryz.underlying119 (Tryz.zeroValue3 w5) (k:=a) (by omega);rw [getI_put (M:=D.known) (H.out.map.up),if_pos rfl] at hlk;simp only [Option.getD_some] at hlk;have k5:=N5.out.k;have HB5:=Lib.hid B5;clear hm5 ht5 B5
  go_wp2_with fail
  go_returns;refine ⟨rfl,_,_,_,_,_,N5.out, ?_, ?_,fun b hb=>.inl hb⟩
  · have b1:But (i.dyn pe pn) w w2:=But.ofExt E2.out;have b2:But (i.dyn pe pn) w (w2.alloc (.cells #[.int .u8 f,.int .i64 v] 43)):=b1.alloc _;have b3:=b2.trans (NN.out.2.mono (l':=i.dyn pe pn) (fun x hx=>by
     rcases List.mem_cons.1 hx with rfl | hx
     · exact DgSt.gd_dyn _ _ _
     · exact DgSt.pe_dyn _ hx))
    exact b3.trans (HB5.out.mono (fun x hx=>by rw [List.mem_singleton.1 hx];exact DgSt.gk_dyn _ _ _))
  · intro b hb;simp only [Dd.dyn,blk,List.mem_cons,List.mem_append,List.not_mem_nil,or_false] at hb ⊢
    rcases hb with hb | hb | rfl | hb
    · exact .inl (.inl hb)
    · exact .inl (.inr (.inl hb))
    · rcases GI.out with h | h
      · exact .inl (.inr (.inr (.inl h)))
      · exact .inr (Nat.le_trans E2.out.le h)
    · exact .inl (.inr (.inr (.inr hb)))
section
variable {P:Program} {ops:Array Oper} {Q:Exit → Act → World → Prop} {md:Region.Mode} {S:World → Prop}
theorem wpAnyE_call {oi:Oper} {fuel:Nat} {listed:Array Bool} {a:Act} {w:World} {f:FuncId} {args:Array Value} (i:Nat) (hi:ops[i]? = some oi) (hr:Region.ready md ops listed=[i]) (hw:Region.wanted oi (yielded ops a.tmps)=true)
    (hrun:(execOp a.eval oi).run P w = .ok (.enter f args) w) (hc:Calls P f args w fun e w'=>∃ v,e = .returned v ∧ S w' ∧ wpAnyR P md ops Q S Eq fuel (listed.setIfInBounds i true) (a.put oi.dst v) w'):wpAnyR P md ops Q S Eq (fuel+1) listed a w:=by
  intro w' r s;subst r;refine ⟨fun e=>(by rw [hr] at e;cases e),fun j hj=>?_⟩
  rw [hr] at hj;rw [List.mem_singleton.1 hj];unfold Go.wpOp;simp only [hi];rw [if_pos hw];refine .inl ?_;unfold Oper.wp;rw [hrun];refine hc.mono ?_;rintro e w'' ⟨v,rfl,hk⟩;exact hk
theorem wpAnyE_put {oi:Oper} {fuel:Nat} {listed:Array Bool} {a:Act} {w w':World} (i:Nat) (hi:ops[i]? = some oi) (hr:Region.ready md ops listed=[i]) (hw:Region.wanted oi (yielded ops a.tmps)=true)
    (hrun:(execOp a.eval oi).run P w = .ok .skip w') (hS:S w') (h:wpAnyR P md ops Q S Eq fuel (listed.setIfInBounds i true) (a.put oi.dst undef) w'):wpAnyR P md ops Q S Eq (fuel+1) listed a w:=by
  intro w2 r s;subst r;refine ⟨fun e=>(by rw [hr] at e;cases e),fun j hj=>?_⟩
  rw [hr] at hj;rw [List.mem_singleton.1 hj];unfold Go.wpOp;simp only [hi];rw [if_pos hw];refine .inl ?_;unfold Oper.wp;rw [hrun];exact ⟨hS,h⟩
end
theorem Hp.refs_snoc {f:Nat → Hp.Dg → Option (Int × Hp.Dg)}:∀ {l:List Nat} {k:Nat} {D D1 D2:Hp.Dg} {xs:List Int} {x:Int},Hp.refs f l D=some (xs,D1) → f k D1=some (x,D2) → Hp.refs f (l ++ [k]) D=some (xs ++ [x],D2)
 | [],k,D,D1,D2,xs,x,h,e=>by
  simp only [Hp.refs,Option.some.injEq,Prod.mk.injEq] at h;obtain ⟨rfl,rfl⟩:=h;simp [Hp.refs,e]
 | a :: r,k,D,D1,D2,xs,x,h,e=>by
  simp only [Hp.refs,Option.bind_eq_bind,Option.bind_eq_some_iff,Prod.exists,Option.some.injEq,Prod.mk.injEq] at h;obtain ⟨y,D3,e1,ys,D4,e2,rfl,rfl⟩:=h;have:=Hp.refs_snoc e2 e;simp [Hp.refs,e1,this]
structure KidSt (w wr:World) (i:Dd) (l0:List Nat) (K0:List (Nat × Nat)) (pe pn:Option Addr) (K:List (Nat × Nat)) (bb g c m:Nat) (v:Int) (R:List Int):Prop where
 but:But l0 w wr
 dyn:∀ b ∈ i.dyn pe pn,b ∈ l0 ∨ w.heap.size ≤ b
 kk:∀ b ∈ K.map Prod.fst,b ∈ K0.map Prod.fst ∨ w.heap.size ≤ b
 b0:wr.cell? ⟨bb,0,none⟩=some (.int .i64 v)
 b1:wr.cell? ⟨bb,1,none⟩=some (.slice (some ⟨g,0,none⟩) m c)
 row:Row wr 0 (some ⟨g,0,none⟩) c R
 new:w.heap.size ≤ bb ∧ w.heap.size ≤ g ∧ bb ≠ g
 far:∀ b,b=bb ∨ b=g → b ∉ i.fixed ∧ b ∉ i.dyn pe pn ∧ b ∉ K.map Prod.fst
theorem KidSt.ext {w wr w':World} {i:Dd} {l0:List Nat} {K0 K:List (Nat × Nat)} {pe pn:Option Addr} {bb g c m:Nat} {v:Int} {R:List Int} (h:KidSt w wr i l0 K0 pe pn K bb g c m v R) (k:Ext wr w'):KidSt w w' i l0 K0 pe pn K bb g c m v R:=
 { h with
   but:=h.but.ext k
   b0:=(k.cell (cell_lt h.b0) 0).trans h.b0
   b1:=(k.cell (cell_lt h.b0) 1).trans h.b1
   row:=Row.ext h.row k }
theorem KidSt.set_ {w wr:World} {i:Dd} {l0:List Nat} {K0 K:List (Nat × Nat)} {pe pn:Option Addr} {bb g c m j:Nat} {v x:Int} {R R':List Int} (h:KidSt w wr i l0 K0 pe pn K bb g c m v R) (hw:Hp.wr R j x=some R') (h1 : -9223372036854775808 ≤ x) (h2:x ≤ 9223372036854775807):KidSt w (wr.setCell ⟨g,j,none⟩ (.int .i64 x)) i l0 K0 pe pn K bb g c m v R':=by
 have k:But [g] wr (wr.setCell ⟨g,j,none⟩ (.int .i64 x)):=(But.refl _ _).setCell (.inl (by simp)) _
 have hb:bb ∉ [g]:=by simpa using h.new.2.2
 exact
  { h with
    but:=h.but.over k fun b hb=>by rw [List.mem_singleton.1 hb];exact .inr h.new.2.1
    b0:=(k.cell (cell_lt h.b0) hb 0).trans h.b0
    b1:=(k.cell (cell_lt h.b0) hb 1).trans h.b1
    row:=h.row.set rfl hw h1 h2 }
theorem KidSt.step {wb w wr w':World} {i:Dd} {l0:List Nat} {K0 K K':List (Nat × Nat)} {D':Hp.Dg} {pe pn pe' pn':Option Addr} {ce cn bb g c m:Nat} {v:Int} {R:List Int} (h:KidSt w wr i l0 K0 pe pn K bb g c m v R) (_:DgSt wb w' i D' pe' ce pn' cn K')
    (hb:But (i.dyn pe pn) wr w') (hd:∀ b ∈ i.dyn pe' pn',b ∈ i.dyn pe pn ∨ wr.heap.size ≤ b) (hk:∀ b ∈ K'.map Prod.fst,b ∈ K.map Prod.fst ∨ wr.heap.size ≤ b):KidSt w w' i l0 K0 pe' pn' K' bb g c m v R:=by
  have zb:=cell_lt h.b0;have zg:g < wr.heap.size:=h.row.lt rfl;have hw:=h.but.size;refine ⟨?_,fun b hm=>?_,fun b hm=>?_,(hb.cell zb (h.far bb (.inl rfl)).2.1 0).trans h.b0,(hb.cell zb (h.far bb (.inl rfl)).2.1 1).trans h.b1,h.row.but_ hb (fun b' o e=>by cases e;exact (h.far g (.inr rfl)).2.1),h.new,fun b hx=>⟨(h.far b hx).1,fun hm=>?_,fun hm=>?_⟩⟩
  · exact h.but.over hb fun x hx=>h.dyn x hx
  · rcases hd b hm with hm | hm
    · exact h.dyn b hm
    · exact .inr (by omega)
  · rcases hk b hm with hm | hm
    · exact h.kk b hm
    · exact .inr (by omega)
  · rcases hd b hm with hm | hm
    · exact (h.far b hx).2.1 hm
    · rcases hx with rfl | rfl <;> omega
  · rcases hk b hm with hm | hm
    · exact (h.far b hx).2.2 hm
    · rcases hx with rfl | rfl <;> omega
theorem Hp.refs_len {f:Nat → Hp.Dg → Option (Int × Hp.Dg)}:∀ {l:List Nat} {D D1:Hp.Dg} {xs:List Int},Hp.refs f l D=some (xs,D1) → xs.length=l.length
 | [],D,D1,xs,h=>by
  simp only [Hp.refs,Option.some.injEq,Prod.mk.injEq] at h;obtain ⟨rfl,rfl⟩:=h;rfl
 | a :: r,D,D1,xs,h=>by
  simp only [Hp.refs,Option.bind_eq_bind,Option.bind_eq_some_iff,Prod.exists,Option.some.injEq,Prod.mk.injEq] at h;obtain ⟨y,D3,e1,ys,D4,e2,rfl,rfl⟩:=h;simp [Hp.refs_len e2]
theorem kid_set {xs ks:List Int} {j:Nat} {x y:Int} (hx:xs.length=j) (hk:ks[j]? = some y):Hp.wr (xs ++ ks.drop j) j x=some ((xs ++ [x]) ++ ks.drop (j+1)):=by
 obtain ⟨hl,e⟩:=List.getElem?_eq_some_iff.1 hk
 unfold Hp.wr
 rw [if_pos (by simp;omega)]
 congr 1
 have e2:ks.drop j=ks[j] :: ks.drop (j+1):=List.drop_eq_getElem_cons hl
 rw [List.set_append_right _ _ (by omega),hx,Nat.sub_self,e2,List.set_cons_zero]
 simp
theorem kid_get {xs ks:List Int} {j:Nat} {y:Int} (hx:xs.length=j) (hk:ks[j]? = some y):Hp.rd (xs ++ ks.drop j) j=some y:=by
 unfold Hp.rd
 rw [List.getElem?_append_right (by omega),hx,Nat.sub_self,List.getElem?_drop,Nat.add_zero]
 exact hk
set_option maxRecDepth 100000 in
set_option maxHeartbeats 16000000 in
theorem from_node {wb w:World} {d:Hd} {S:Hp.Hs} {B:Nat} {L:List Hp.Tl} {ch:Nat → List Nat} {i:Dd} {D D1:Hp.Dg} {pe pn:Option Addr} {ce cn a n:Nat} {K:List (Nat × Nat)} {xs:List Int} (hA:HAt wb d S) (hw:Hp.Wf S B L ch) (hb:d.hb=i.hb) (h:DgSt wb w i D pe ce pn cn K) (hD:Hp.DgOk S D) (ha:a ∈ S.taken) (hk:getI a D.known=none) (he:Hp.isEnd (Hp.ow S.words a)=false)
    (hn:∀ k ∈ (Hp.fz (Hp.ow S.words) S.sizes a).map Int.toNat,(S.order.length:Int)-Hp.rk S k < n)
    (IH:∀ k,k ∈ S.taken → (S.order.length:Int)-Hp.rk S k < n → ∀ (w:World) (D D1:Hp.Dg) (pe pn:Option Addr) (ce cn:Nat) (K:List (Nat × Nat)) (x:Int),DgSt wb w i D pe ce pn cn K → Hp.DgOk S D → S.from' n k D=some (x,D1) → Calls Tryz.prog 81 (i.args k) w (FromPost wb w i (i.dyn pe pn) D1 x K))
    (hr:Hp.refs (S.from' n) ((Hp.fz (Hp.ow S.words) S.sizes a).map Int.toNat) D=some (xs,D1)) :
    Calls Tryz.prog 81 (i.args a) w (FromPost wb w i (i.dyn pe pn) ⟨putI a D1.nodes.length D1.known,D1.ends,D1.nodes ++ [(Hp.ow S.words a-1,xs)]⟩ D1.nodes.length K):=by
  have pa:=hw.part ha;have hhi:=hw.hi;have ht:=hw.tag_le ha;have hkid:=hw.kid_in ha he;have hkz:=hw.cells.kids a ha;have AT:=Lib.hid (fun W (hE:Ext w W)=>At_node_f ((hA.ext h.ext).ext hE) hw ha he);have hml:(Hp.fz (Hp.ow S.words) S.sizes a).length ≤ 20:=by rw [Hp.fz_length];omega
  obtain ⟨ks,hks⟩:∃ ks,Hp.fz (Hp.ow S.words) S.sizes a=ks:=⟨_,rfl⟩
  have hkz':∀ x ∈ ks,∃ b:Nat,x=b:=fun x hx=>by
   obtain ⟨b,_,e,_⟩:=hkz x (by simpa [Hp.kz,he,hks] using hx);exact ⟨b,e⟩
  rw [hks] at AT hml hkid hn hr;obtain ⟨v,hv⟩:∃ v,Hp.ow S.words a-1=v:=⟨_,rfl⟩
  have hv0:0 ≤ v:=by omega
  unfold NodePost at AT;rw [hv] at AT ⊢;rw [hb] at AT;obtain ⟨m,hm⟩:∃ m,ks.length=m:=⟨_,rfl⟩
  rw [hm] at AT hml;have H:=Lib.hid h;have k1:=h.k;have k2:=h.h;have z1:=cell_lt k1;have z2:=cell_lt k2;have hlk:=h.map.lookOk (t:=119) Tryz.underlying3 Tryz.underlying119 (Tryz.zeroValue3 w) (k:=a) (by omega);rw [hk] at hlk;simp only [Option.getD_none,Option.isSome_none] at hlk;have HM:=Lib.hid hm;have HKI:=Lib.hid hkid;have HKZ:=Lib.hid hkz';have HN:=Lib.hid hn;have HIH:=Lib.hid IH;have HR:=Lib.hid hr;have HD:=Lib.hid hD;have HW:=Lib.hid hw;have HBE:=Lib.hid hA.below;clear h hA hw hb he hv hk hn hm hks hkid hkz hkz' IH hr hD;unfold Dd.args;have mixed:Tryz.prog.follows .mixedOrders=true:=by kernel_rfl
  have tv:decide (v < 0)=false:=decide_eq_false (by omega);go_enter Tryz.func81,Tryz.ntmps81;go_upto_region 5 with (go_at_call 22;refine (AT.out _ (exx)).mono ?_;rintro e w1 ⟨g,c,rfl,hR,hb1⟩)
  have G1:=Lib.hid (show w.heap.size ≤ g ∧ g < w1.heap.size from ⟨hR.far rfl,hR.lt rfl⟩);refine cut_world (F:=fun W=>Hid (Ext w W ∧ Ext w1 W) ∧ W.cell? ⟨w1.heap.size,0,none⟩=some (.int .i64 v) ∧ W.cell? ⟨w1.heap.size,1,none⟩=some (.slice (some ⟨g,0,none⟩) m c)) ⟨Lib.hid ⟨exx,exx⟩, ?a1, ?a2⟩ ?rest
  case a1=>go_simp
  case a2=>go_simp
  case rest=>
  intro w2 ⟨E2,g1,g2⟩;have N:=Lib.hid (H.out.ext' E2.out.1);have BB:=Lib.hid (show w.heap.size ≤ w1.heap.size ∧ w1.heap.size ≠ g from ⟨hb1.le,fun e=>by have:=G1.out.2;omega⟩)
  have KS0:Hid (KidSt w w2 i (i.dyn pe pn) K pe pn K w1.heap.size g c m v ([] ++ ks.drop 0)):=Lib.hid
   { but:=But.ofExt E2.out.1
     dyn:=fun b hb=>.inl hb
     kk:=fun b hb=>.inl hb
     b0:=g1
     b1:=g2
     row:=Row.lower (hR.ext E2.out.2) (Nat.zero_le _)
     new:=⟨BB.out.1,G1.out.1,BB.out.2⟩
     far:=fun b hx=>by
      have hb2:w.heap.size ≤ b:=by
       rcases hx with rfl | rfl
       · exact BB.out.1
       · exact G1.out.1
      refine ⟨fun hm=>?_,fun hm=>?_,fun hm=>?_⟩
      · have:=(H.out.lo b (by simp only [List.mem_append];exact .inl (.inl hm))).2;omega
      · have:=(H.out.lo b (by simp only [List.mem_append];exact .inl (.inr hm))).2;omega
      · have:=(H.out.lo b (by simp only [List.mem_append];exact .inr hm)).2;omega }
  have E2w:=Lib.hid E2.out.1;have EW:=Lib.hid H.out.ext;clear hb1 k1 k2 hlk z1 z2 hR E2 G1 BB AT H;generalize w1.heap.size=bb at g1 g2 KS0 ⊢
  go_wp2_with fail
  go_loopg [50] m (fun g' iv wr=>∃ (j:Nat) (Dj:Hp.Dg) (xsj:List Int) (pe' pn':Option Addr) (ce' cn':Nat) (Kj:List (Nat × Nat)),j ≤ m ∧ m-j ≤ g' ∧ iv = .int .i64 j ∧ Hid (DgSt wb wr i Dj pe' ce' pn' cn' Kj) ∧ Hid (KidSt w wr i (i.dyn pe pn) K pe' pn' Kj bb g c m v (xsj ++ ks.drop j)) ∧ Aside (Hp.refs (S.from' n) ((ks.map Int.toNat).take j) D=some (xsj,Dj)) ∧ Aside (Hp.DgOk S Dj))
  case atStart=>exact ⟨0,D,[],pe,pn,ce,cn,K,Nat.zero_le _,by omega,rfl,N,KS0,rfl,HD.out⟩
  case round=>
   obtain ⟨j,Dj,xsj,pe',pn',ce',cn',Kj,hj,hg,rfl,NJ,KJ,RJ,DJ⟩:=hrel;clear g1 g2 N KS0
   by_cases hlt:j < m
   · have tk:decide ((j:Int) < (m:Int))=true:=decide_eq_true (by omega);obtain ⟨y,hy⟩:=get_list (E:=ks) (j:=j) (by rw [HM.out];exact hlt);obtain ⟨k,rfl⟩:=HKZ.out y (List.mem_of_getElem? hy);have hlj:(ks.map Int.toNat)[j]? = some k:=by rw [List.getElem?_map,hy];simp
     have hxl:xsj.length=j:=by
      rw [Hp.refs_len RJ.out,List.length_take,List.length_map,HM.out];omega
     have hkm:=List.mem_of_getElem? hlj;obtain ⟨hkt,hkr⟩:=HKI.out k hkm;obtain ⟨x,D2,ex,FT⟩:=Hp.from_total HW.out n k hkt (HN.out k hkm) Dj DJ.out;have CALL:=Lib.hid (HIH.out k hkt (HN.out k hkm));have hrd:=kid_get hxl hy;have b1:=KJ.out.b1;have gkk:=KJ.out.row.cell_ rfl hrd;have fgk:=KJ.out.row.froz (j:=j) rfl;have f4:=NJ.out.f;have zg:=cell_lt gkk;have zb:=cell_lt b1;have zf:=cell_lt f4;have kcap:=KJ.out.row.at_.cap;have kle:=KJ.out.row.at_.le;have HFT:=Lib.hid FT;have HEX:=Lib.hid ex;have HHY:=Lib.hid hy;have HLJ:=Lib.hid hlj;have HXL:=Lib.hid hxl;have hbk:(k:Int) ≤ 9223372036854775807:=(KJ.out.row.2 k (List.mem_of_getElem? hrd)).2;have hkl:(xsj ++ ks.drop j).length=m:=by
      have:=HM.out;simp only [List.length_append,List.length_drop];omega
     rw [hkl] at kle;have FF:=KJ.out.far;have gfb:g ≠ i.fb:=fun e=>(FF g (.inr rfl)).1 (by rw [e];simp [Dd.fixed])
     have gbb:g ≠ bb:=fun e=>KJ.out.new.2.2 e.symm
     clear hy hlj hxl hkm hkt hkr ex FT hrd FF hkl;unfold Dd.fv at f4
     go_wp2_with fail
     refine wp_region_seq (S:=fun W=>W.cell? ⟨bb,1,none⟩=some (.slice (some ⟨g,0,none⟩) m c) ∧ W.cell? ⟨i.fb,0,none⟩=some (.func (.func 81) #[] #[.pointer (some ⟨i.kb,0,none⟩),.pointer (some ⟨i.hx,0,none⟩),.pointer (some ⟨i.gd,0,none⟩),.pointer (some ⟨i.fb,0,none⟩)])) (R:=Eq) (by kernel_rfl) (fun _=>rfl) ?_ ?_
     · exact ⟨b1,f4⟩
     refine' wpAnyR_take (i:=0) (v:=?v0_1) (fun _=>rfl) (fun _ _ _ h k=>h.trans k) rfl (by kernel_rfl) (by kernel_rfl) (by kernel_rfl) (fun _ _ _ h=>h) (Or.inl (Or.inl ⟨by rfl, ?hy0_1⟩)) ?rest0_1
     case hy0_1=>(intro w hSw;(obtain ⟨s1,s2⟩:=hSw);go_simp;try with_reducible rfl)
     refine layy ?_;refine' wpAnyR_take (i:=1) (v:=?v1_2) (fun _=>rfl) (fun _ _ _ h k=>h.trans k) rfl (by kernel_rfl) (by kernel_rfl) (by kernel_rfl) (fun _ _ _ h=>h) (Or.inl (Or.inl ⟨by rfl, ?hy1_2⟩)) ?rest1_2
     case hy1_2=>(intro w hSw;(obtain ⟨s1,s2⟩:=hSw);go_simp;try with_reducible rfl)
     refine layy ?_;refine' wpAnyR_take (i:=2) (v:=?v2_3) (fun _=>rfl) (fun _ _ _ h k=>h.trans k) rfl (by kernel_rfl) (by kernel_rfl) (by kernel_rfl) (fun _ _ _ h=>h) (Or.inl (Or.inl ⟨by rfl, ?hy2_3⟩)) ?rest2_3
     case hy2_3=>(intro w hSw;(obtain ⟨s1,s2⟩:=hSw);go_simp;try with_reducible rfl)
     refine layy ?_;refine' wpAnyR_take (i:=3) (v:=?v3_4) (fun _=>rfl) (fun _ _ _ h k=>h.trans k) rfl (by kernel_rfl) (by kernel_rfl) (by kernel_rfl) (fun _ _ _ h=>h) (Or.inl (Or.inl ⟨by rfl, ?hy3_4⟩)) ?rest3_4
     case hy3_4=>(intro w hSw;(obtain ⟨s1,s2⟩:=hSw);go_simp;try with_reducible rfl)
     refine layy ?_;refine' wpAnyR_take (i:=4) (v:=?v4_5) (fun _=>rfl) (fun _ _ _ h k=>h.trans k) rfl (by kernel_rfl) (by kernel_rfl) (by kernel_rfl) (fun _ _ _ h=>h) (Or.inl (Or.inl ⟨by rfl, ?hy4_5⟩)) ?rest4_5
     case hy4_5=>(intro w hSw;(obtain ⟨s1,s2⟩:=hSw);go_simp;try with_reducible rfl)
     refine layy ?_;refine wpAnyE_call 5 (f:=81) (args:=i.args k) rfl (by kernel_rfl) (by rfl) ?run5 ?call5
     case run5=>
      have s2:=f4;unfold Dd.args;go_simp
     refine (CALL.out wr.drew Dj D2 pe' pn' ce' cn' Kj x (NJ.out.ext' exx) DJ.out HEX.out).mono ?_;rintro e w4 ⟨rfl,pe4,ce4,pn4,cn4,K4,N4,B4,Y4,Z4⟩;have KJ':KidSt w wr.drew i (i.dyn pe pn) K pe' pn' Kj bb g c m v (xsj ++ ks.drop j):=KJ.out.ext (Ext.drew (Ext.refl wr));have KJ4:=Lib.hid (KJ'.step N4 B4 Y4 Z4);have b4:=KJ4.out.b1;have g4:=N4.f;unfold Dd.fv at g4;have N4:=Lib.hid N4;have hrd:=kid_get HXL.out HHY.out;have gk4:=KJ4.out.row.cell_ rfl hrd;have fgk4:=KJ4.out.row.froz (j:=j) rfl;refine ⟨.int .i64 x,rfl,⟨b4,g4⟩, ?_⟩;clear KJ KJ' B4 Y4 Z4 b1 gkk fgk f4 zg zb zf CALL NJ;refine layy ?_;refine' wpAnyR_take (i:=6) (v:=?v6_6) (fun _=>rfl) (fun _ _ _ h k=>h.trans k) rfl (by kernel_rfl) (by kernel_rfl) (by kernel_rfl) (fun _ _ _ h=>h) (Or.inl (Or.inl ⟨by rfl, ?hy6_6⟩)) ?rest6_6
     case hy6_6=>(intro w _;go_simp;try with_reducible rfl)
     refine layy ?_;refine wpAnyE_put 7 (w':=w4.setCell ⟨g,j,none⟩ (.int .i64 x)) rfl (by kernel_rfl) (by rfl) ?run7 ?s7 ?next7
     case run7=>go_simp
     case s7=>exact ⟨by go_simp,by go_simp⟩
     refine layy ?_;refine wpAnyR_done (by kernel_rfl) ?_ _;intro w5 e5 _;subst e5
     go_wp2_with fail
     have bx : -9223372036854775808 ≤ x ∧ x ≤ 9223372036854775807:=by
      have h1:=HFT.out.lo;have h2:=HFT.out.hi;have h3:=HFT.out.ok.many;have h4:=Hp.known_few HFT.out.ok (n:=S.words.length) HBE.out;omega
     have KJ5:=Lib.hid (KJ4.out.set_ (kid_set (x:=x) HXL.out HHY.out) bx.1 bx.2);have N5:=Lib.hid (N4.out.far (l:=[g]) ((But.refl _ _).setCell (p:=⟨g,j,none⟩) (.inl (by simp)) (.int .i64 x)) (fun b hb=>by rw [List.mem_singleton.1 hb];exact Nat.le_trans (EW.out.le) KJ4.out.new.2.1) (fun b hb=>by rw [List.mem_singleton.1 hb];exact KJ4.out.far g (.inr rfl)))
     go_wp2_with fail
     go_roundg (m-(j+1))
     case measure=>omega
     case rel=>exact ⟨j+1,D2,xsj ++ [x],pe4,pn4,ce4,cn4,K4,by omega,Nat.le_refl _,by go_num,N5,KJ5,(show Aside _ from by rw [List.take_add_one,HLJ.out];exact Hp.refs_snoc RJ.out HEX.out),(show Aside _ from HFT.out.ok)⟩
   · have:j=m:=by omega
     subst this;have tk:decide ((j:Int) < (j:Int))=false:=decide_eq_false (by omega);have e1:Dj=D1 ∧ xsj=xs:=by
      have h1:=RJ.out;rw [List.take_of_length_le (by rw [List.length_map,HM.out];exact Nat.le_refl _),HR.out] at h1;simp only [Option.some.injEq,Prod.mk.injEq] at h1;exact ⟨h1.2.symm,h1.1.symm⟩
     obtain ⟨rfl,rfl⟩:=e1;rw [List.drop_of_length_le (by rw [HM.out];exact Nat.le_refl _),List.append_nil] at KJ;have hxl:xsj.length=j:=by rw [Hp.refs_len HR.out,List.length_map,HM.out]
     obtain ⟨nn,hnn⟩:∃ nn,Dj.nodes.length=nn:=⟨_,rfl⟩
     have few:=Hp.known_few DJ.out (n:=S.words.length) HBE.out;have many:=DJ.out.many;have NN:=Lib.hid hnn;have HXL:=Lib.hid hxl;have b0:=KJ.out.b0;have b1:=KJ.out.b1;have d3:=NJ.out.d3;have f3:=NJ.out.z3;rw [hnn] at d3 many ⊢;have zd:=cell_lt d3;have zb:=cell_lt b0;clear hnn hxl;go_upto_region 15 with (at_builtin;refine wpList_append_N rfl _ _ 47 41 rfl (z:=.agg #[.int .i64 0,.slice none 0 0]) (n:=2) (bytes:=32) Tryz.underlying47 (by kernel_rfl) rfl (by decide) (by decide) (m:=nn) (by rw [List.length_zipWith,NJ.out.kl,Nat.min_self,NN.out]) rfl rfl (NJ.out.nr.ext (exx)) (y:=[.int .i64 v,.slice (some ⟨g,0,none⟩) j c]) rfl (cells2 (by go_simp) (by go_simp)) (by simp [Value.oneCell']) (by omega) ?_;intro g' cap w3 row hR3 hG hrow hg' hlt';have Na:=NJ.out.ext' (show Ext wr (wr.alloc (.cells #[.int .i64 v,.slice (some ⟨g,0,none⟩) j c] 41)) from exx);obtain ⟨q2,r2⟩:=Na.store3 hG hrow;have NB:=Lib.hid (Na.node_ (g0:=g) (c0:=c) (q:=(v,xsj)) (by rw [show nodeC (v,xsj) (some ⟨g,0,none⟩,c)=[.int .i64 v,.slice (some ⟨g,0,none⟩) j c] by simp [nodeC,HXL.out]];exact hR3) hG hrow hg' hlt' (Row.at_ (Row.ext KJ.out.row exx)) ⟨Nat.le_trans EW.out.le KJ.out.new.2.1,by have h:=Row.lt KJ.out.row rfl;simp;omega⟩ (KJ.out.far g (.inr rfl)).1 (KJ.out.far g (.inr rfl)).2.1);rw [NN.out] at NB;have GI:=Lib.hid (show g' ∈ blk pn' ∨ wr.heap.size ≤ g' from hg'.imp (fun e=>by rw [e];simp [blk]) (fun e=>by rw [e];simp));rw [NN.out] at q2;clear Na hR3 hG hrow hg' hlt')
     obtain ⟨N4,B4⟩:=NB.out;refine cut_world (F:=fun W=>Hid (DgSt wb W i { Dj with nodes:=Dj.nodes ++ [(v,xsj)] } pe' ce' (some ⟨g',0,none⟩) cap (Kj ++ [(g,c)]) ∧ But (i.gd :: blk pn') (wr.alloc (.cells #[.int .i64 v,.slice (some ⟨g,0,none⟩) j c] 41)) W)) (Lib.hid ⟨N4,B4⟩) ?_;intro w4 NW;clear NB N4 B4 q2 r2;have k4:=NW.out.1.k;have d4:=NW.out.1.d3;simp only [List.length_append,List.length_cons,List.length_nil,NN.out,Nat.zero_add] at d4;have s1:wrap64 ((nn:Int)+1-1)=(nn:Int):=IntWalk.wrap64_in _ ⟨by omega,by omega⟩ |>.trans (by omega)
     have s2:IntKind.i64.wrap ((nn:Int)+1-1)=(nn:Int):=(IntWalk.i64_in _ ⟨by omega,by omega⟩).trans (by omega);obtain ⟨w5,hup,hm5,ht5⟩:=NW.out.1.map.put (t:=119) Tryz.underlying3 Tryz.underlying119 (by unfold maxLen;simp only;omega) (a:=a) (x:=(nn:Int)) (by omega) (by omega) (by omega);have B5:But [i.gk] w4 w5:=(But.refl _ _).turned ht5 (.inl (by simp));have N5:=Lib.hid (NW.out.1.known_ B5 hm5);have hlk:=N5.out.map.look (t:=119) Tryz.underlying3 Tryz.underlying119 (Tryz.zeroValue3 w5) (k:=a) (by omega);rw [getI_put (M:=Dj.known) (NJ.out.map.up),if_pos rfl] at hlk;simp only [Option.getD_some] at hlk;have k5:=N5.out.k;have HB5:=Lib.hid B5;clear hm5 ht5 B5
     go_wp2_with fail
     go_returns;rw [NN.out];refine ⟨rfl,_,_,_,_,_,N5.out, ?_,fun b hb=>?_,fun b hb=>?_⟩
     · have b1:But (i.dyn pe' pn') wr (wr.alloc (.cells #[.int .i64 v,.slice (some ⟨g,0,none⟩) j c] 41)):=(But.refl _ _).alloc _;have b2:=b1.trans (NW.out.2.mono (l':=i.dyn pe' pn') (fun x hx=>by
        rcases List.mem_cons.1 hx with rfl | hx
        · exact DgSt.gd_dyn _ _ _
        · exact DgSt.pn_dyn _ hx))
       have b3:=b2.trans (HB5.out.mono (fun x hx=>by rw [List.mem_singleton.1 hx];exact DgSt.gk_dyn _ _ _));exact KJ.out.but.over b3 KJ.out.dyn
     · have hsz:=KJ.out.but.size;simp only [Dd.dyn,blk,List.mem_cons,List.mem_append,List.not_mem_nil,or_false] at hb
       rcases hb with hb | hb | hb | rfl
       · exact KJ.out.dyn b (by rw [hb];exact DgSt.gk_dyn _ _ _)
       · exact KJ.out.dyn b (by rw [hb];exact DgSt.gd_dyn _ _ _)
       · exact KJ.out.dyn b (DgSt.pe_dyn _ hb)
       · rcases GI.out with h | h
         · exact KJ.out.dyn b (DgSt.pn_dyn _ h)
         · exact .inr (Nat.le_trans hsz h)
     · rw [List.map_append] at hb
       rcases List.mem_append.1 hb with hb | hb
       · exact KJ.out.kk b hb
       · have:b=g:=by simpa using hb
         rw [this];exact .inr KJ.out.new.2.1
theorem from_any {wb:World} {d:Hd} {S:Hp.Hs} {B:Nat} {L:List Hp.Tl} {ch:Nat → List Nat} {i:Dd} (hA:HAt wb d S) (hw:Hp.Wf S B L ch) (hb:d.hb=i.hb):∀ (n k:Nat),k ∈ S.taken → (S.order.length:Int)-Hp.rk S k < n → ∀ (w:World) (D D1:Hp.Dg) (pe pn:Option Addr) (ce cn:Nat) (K:List (Nat × Nat)) (x:Int),DgSt wb w i D pe ce pn cn K → Hp.DgOk S D → S.from' n k D=some (x,D1) →
    Calls Tryz.prog 81 (i.args k) w (FromPost wb w i (i.dyn pe pn) D1 x K)
  | 0,_,_,_,_,_,_,_,_,_,_,_,_,_,_,e=>by simp [Hp.Hs.from'] at e
  | n+1,k,hk,hn,w,D,D1,pe,pn,ce,cn,K,x,h,hD,e=>by
   have hp:=hw.part hk;have hi:=hw.hi;have few:=Hp.known_few hD (n:=S.words.length) hA.below;have many:=hD.many;unfold Hp.Hs.from' at e
   cases hg:getI k D.known with
   | some y=>
    rw [hg] at e;simp only [Option.some.injEq,Prod.mk.injEq] at e;obtain ⟨rfl,rfl⟩:=e;exact from_known h (by omega) hg
   | none=>
    rw [hg] at e;simp only at e
    cases he:Hp.isEnd (Hp.ow S.words k) with
    | true=>
     rw [he] at e;simp only [if_true,Option.some.injEq,Prod.mk.injEq] at e;obtain ⟨rfl,rfl⟩:=e;exact from_end hA hw hb h hk hg he (by omega) (by omega)
    | false=>
     rw [he] at e;simp only [Bool.false_eq_true,if_false,Option.bind_eq_bind,Option.bind_eq_some_iff,Prod.exists,Option.some.injEq,Prod.mk.injEq] at e;obtain ⟨xs,D2,e1,rfl,rfl⟩:=e;exact from_node hA hw hb h hD hk hg he (fun q hq=>by have:=(hw.kid_in hk he q hq).2;omega) (from_any hA hw hb n) e1
end Go.Proofs.YtdokmmhjmclmnaaGreat
