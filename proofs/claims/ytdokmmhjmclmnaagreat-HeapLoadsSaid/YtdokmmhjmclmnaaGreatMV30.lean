/-
  Part 30 of a proof: NR4 NR5 NR6 NR7.
-/
import Derived.Test.YtdokmmhjmclmnaaGreatMV17
import Derived.Test.YtdokmmhjmclmnaaGreatMV26
import Derived.Test.YtdokmmhjmclmnaaGreatMV28
import Derived.Test.YtdokmmhjmclmnaaGreatMV29
set_option linter.unusedSimpArgs false
set_option linter.unusedVariables false
set_option linter.unusedSectionVars false
set_option linter.unnecessarySimpa false
namespace Go.Proofs.YtdokmmhjmclmnaaGreat
variable {W' w w' w0 wb:World} {B a b base c cap ce cn f g gb i j k lb m n oc s sc:Nat} {choice t x:Int} {G W fs l o xs z:List Int} {L:List Hp.Tl} {r:Rd} {S S':Hp.Hs} {A N T:List Nat} {M:List (Nat × Int)} {op p pe pn q sp:Option Addr} {d:Hd} {acts:List Hp.Act'}
open Go.RowKit Go.Maps
structure PnSt (wb w wr:World) (pe0 pn0:Option Addr) (K0:List (Nat × Nat)) (d0 d1 d4:Value) (s:Nd.Cl) (pe:Option Addr) (ce:Nat) (pn:Option Addr) (cn:Nat) (K:List (Nat × Nat)) (gb gr gk:Nat) (v:Int) (pk:Option Addr) (ck:Nat) (xs:List Int):Prop where
 base:wb.heap.size<=w.heap.size
 pd:PtD wb wr s.ends s.nodes pe ce pn cn K
 but:But (blk pe0 ++ blk pn0) w wr
 dyn:∀ b,b ∈ blk pe \/ b ∈ blk pn->b ∈ blk pe0 \/ b ∈ blk pn0 \/ w.heap.size<=b
 kk:∀ b ∈ K.map Prod.fst,b ∈ K0.map Prod.fst \/ w.heap.size<=b
 o1:Own5 wr gb d0 d1 (.slice pe s.ends.length ce) (.slice pn s.nodes.length cn) d4
 o2:Own5 wr gr (.slice none 0 0) (.slice none 0 0) (.slice none 0 0) (.slice none 0 0) (.int .i64 0)
 b0:wr.cell? ⟨gk,0,none⟩=some (.int .i64 v)
 b1:wr.cell? ⟨gk,1,none⟩=some (.slice pk xs.length ck)
 bz:∀ o,wr.frozen? ⟨gk,o,none⟩=false
 row:RowN wr 1 3 pk ck (xs.map fun x=>[.int .i64 x])
 wf:∀ x ∈ xs,-9223372036854775808<=x/\x<=9223372036854775807
 lo:∀ b,b=gb \/ b=gr \/ b=gk \/ b ∈ blk pk->w.heap.size<=b/\b < wr.heap.size
 ne:gb ≠ gr/\gb ≠ gk/\gr ≠ gk
 nk:gb ∉ blk pk/\gr ∉ blk pk/\gk ∉ blk pk
 nd:∀ b,b=gb \/ b=gr \/ b=gk \/ b ∈ blk pk->b ∉ blk pe/\b ∉ blk pn/\b ∉ K.map Prod.fst
namespace PnSt
variable {wb w wr w':World} {pe0 pn0:Option Addr} {K0:List (Nat × Nat)} {d0 d1 d4:Value} {s s':Nd.Cl} {pe pn pe' pn':Option Addr} {ce cn ce' cn':Nat} {K K':List (Nat × Nat)} {gb gr gk:Nat} {v:Int} {pk:Option Addr} {ck:Nat} {xs:List Int}
theorem far (h:PnSt wb w wr pe0 pn0 K0 d0 d1 d4 s pe ce pn cn K gb gr gk v pk ck xs) {l:List Nat} (k:But l wr w') (hw:∀ b ∈ l,w.heap.size<=b) (hl:∀ b ∈ l,(b ∉ blk pe/\b ∉ blk pn/\b ∉ K.map Prod.fst) /\ ¬ (b=gb \/ b=gr \/ b=gk \/ b ∈ blk pk)):PnSt wb w w' pe0 pn0 K0 d0 d1 d4 s pe ce pn cn K gb gr gk v pk ck xs:=by
 have f:∀ b,b=gb \/ b=gr \/ b=gk \/ b ∈ blk pk->b ∉ l:=fun b hb hm=>(hl b hm).2 hb
 have zk:=cell_lt h.b0
 exact
  { h with
    pd:=h.pd.far k (fun b hb=>Nat.le_trans h.base (hw b hb)) fun b hb=>(hl b hb).1
    but:=h.but.over k fun b hb=>.inr (hw b hb)
    o1:=h.o1.but k (f gb (.inl rfl))
    o2:=h.o2.but k (f gr (.inr (.inl rfl)))
    b0:=(k.cell zk (f gk (.inr (.inr (.inl rfl)))) 0).trans h.b0
    b1:=(k.cell zk (f gk (.inr (.inr (.inl rfl)))) 1).trans h.b1
    bz:=fun o=>(k.frozen zk (f gk (.inr (.inr (.inl rfl)))) o).trans (h.bz o)
    row:=h.row.but k fun b o e=>f b (.inr (.inr (.inr (mem_blk e))))
    lo:=fun b hb=>⟨(h.lo b hb).1,Nat.lt_of_lt_of_le (h.lo b hb).2 k.size⟩ }
theorem ext' (h:PnSt wb w wr pe0 pn0 K0 d0 d1 d4 s pe ce pn cn K gb gr gk v pk ck xs) (k:Ext wr w'):PnSt wb w w' pe0 pn0 K0 d0 d1 d4 s pe ce pn cn K gb gr gk v pk ck xs:=h.far (l:=[]) (But.ofExt k) (by simp) (by simp)
theorem start {E:List (Int × Int)} {N:List (Int × List Int)} (h:PtD wb w E N pe ce pn cn K) (v:Int) (t1 t2 t3:TypeId) :
    PnSt wb w (((w.alloc (.cells #[d0,d1,.slice pe E.length ce,.slice pn N.length cn,d4] t1)).alloc (.cells #[.slice none 0 0,.slice none 0 0,.slice none 0 0,.slice none 0 0,.int .i64 0] t2)).alloc (.cells #[.int .i64 v,.slice none 0 0] t3)) pe pn K d0 d1 d4 ⟨[],E,N⟩ pe ce pn cn K w.heap.size (w.heap.size+1) (w.heap.size+1+1) v none 0 []:=by
  have x:Ext w (((w.alloc (.cells #[d0,d1,.slice pe E.length ce,.slice pn N.length cn,d4] t1)).alloc (.cells #[.slice none 0 0,.slice none 0 0,.slice none 0 0,.slice none 0 0,.int .i64 0] t2)).alloc (.cells #[.int .i64 v,.slice none 0 0] t3)):=exx;have sz:(((w.alloc (.cells #[d0,d1,.slice pe E.length ce,.slice pn N.length cn,d4] t1)).alloc (.cells #[.slice none 0 0,.slice none 0 0,.slice none 0 0,.slice none 0 0,.int .i64 0] t2)).alloc (.cells #[.int .i64 v,.slice none 0 0] t3)).heap.size=w.heap.size+1+1+1:=by simp
  exact
   { base:=h.ext.le
     pd:=h.ext' x
     but:=But.ofExt x
     dyn:=fun b hb=>hb.imp id .inl
     kk:=fun b hb=>.inl hb
     o1:=⟨by go_simp,by go_simp,by go_simp,by go_simp,by go_simp,fun o=>by go_simp⟩
     o2:=⟨by go_simp,by go_simp,by go_simp,by go_simp,by go_simp,fun o=>by go_simp⟩
     b0:=by go_simp
     b1:=by go_simp
     bz:=fun o=>by go_simp
     row:=RowN.nil _ _ _
     wf:=by simp
     lo:=fun b hb=>by
      rw [sz];simp only [blk,List.not_mem_nil,or_false] at hb;omega
     ne:=by omega
     nk:=by simp [blk]
     nd:=fun b hb=>by
      simp only [blk,List.not_mem_nil,or_false] at hb;refine ⟨fun hm=>?_,fun hm=>?_,fun hm=>?_⟩
      . have:=(h.lo b (.inl hm)).2;omega
      . have:=(h.lo b (.inr (.inl hm))).2;omega
      . have:=(h.lo b (.inr (.inr hm))).2;omega }
theorem call_ (h:PnSt wb w wr pe0 pn0 K0 d0 d1 d4 s pe ce pn cn K gb gr gk v pk ck xs) {w1:World} (hP:PtD wb w1 s'.ends s'.nodes pe' ce' pn' cn' K') (kb:But (blk pe ++ blk pn) wr w1) (hd:∀ b,b ∈ blk pe' \/ b ∈ blk pn'->b ∈ blk pe \/ b ∈ blk pn \/ wr.heap.size<=b) (hk:∀ b ∈ K'.map Prod.fst,b ∈ K.map Prod.fst \/ wr.heap.size<=b) :
    PnSt wb w (((((w1.setCell ⟨gb,0,none⟩ d0).setCell ⟨gb,1,none⟩ d1).setCell ⟨gb,2,none⟩ (.slice pe' s'.ends.length ce')).setCell ⟨gb,3,none⟩ (.slice pn' s'.nodes.length cn')).setCell ⟨gb,4,none⟩ d4) pe0 pn0 K0 d0 d1 d4 s' pe' ce' pn' cn' K' gb gr gk v pk ck xs:=by
  have f:∀ b,b=gb \/ b=gr \/ b=gk \/ b ∈ blk pk->b ∉ blk pe ++ blk pn:=fun b hb hm=>by
   rcases List.mem_append.1 hm with hm | hm
   . exact (h.nd b hb).1 hm
   exact (h.nd b hb).2.1 hm
  have zk:=cell_lt h.b0;have k2:But [gb] w1 (((((w1.setCell ⟨gb,0,none⟩ d0).setCell ⟨gb,1,none⟩ d1).setCell ⟨gb,2,none⟩ (.slice pe' s'.ends.length ce')).setCell ⟨gb,3,none⟩ (.slice pn' s'.nodes.length cn')).setCell ⟨gb,4,none⟩ d4):=(((((But.refl [gb] w1).setCell (.inl (by simp)) _).setCell (.inl (by simp)) _).setCell (.inl (by simp)) _).setCell (.inl (by simp)) _).setCell (.inl (by simp)) _;have hgb:=h.lo gb (.inl rfl);have nd':∀ b,b=gb \/ b=gr \/ b=gk \/ b ∈ blk pk->b ∉ blk pe'/\b ∉ blk pn'/\b ∉ K'.map Prod.fst:=fun b hb=>by
   have h1:=h.nd b hb;have h2:=(h.lo b hb).2;refine ⟨fun hm=>?_,fun hm=>?_,fun hm=>?_⟩
   . rcases hd b (.inl hm) with e | e | e
     . exact h1.1 e
     . exact h1.2.1 e
     omega
   . rcases hd b (.inr hm) with e | e | e
     . exact h1.1 e
     . exact h1.2.1 e
     omega
   rcases hk b hm with e | e
   . exact h1.2.2 e
   omega
  have s1:=h.but.size;have ng:∀ b,b=gr \/ b=gk \/ b ∈ blk pk->b ∉ [gb]:=fun b hb hm=>by
   rw [List.mem_singleton.1 hm] at hb
   rcases hb with e | e | e
   . exact h.ne.1 e
   . exact h.ne.2.1 e
   exact h.nk.1 e
  exact
   { base:=h.base
     pd:=hP.far k2 (fun b hb=>by rw [List.mem_singleton.1 hb];exact Nat.le_trans h.base hgb.1) fun b hb=>by rw [List.mem_singleton.1 hb];exact nd' gb (.inl rfl)
     but:=(h.but.over kb fun b hb=>by
      have e:=h.dyn b (List.mem_append.1 hb)
      rcases e with e | e | e
      . exact .inl (List.mem_append_left _ e)
      . exact .inl (List.mem_append_right _ e)
      . exact .inr e).over k2 fun b hb=>by rw [List.mem_singleton.1 hb];exact .inr hgb.1
     dyn:=fun b hb=>by
      rcases hd b hb with e | e | e
      . exact h.dyn b (.inl e)
      . exact h.dyn b (.inr e)
      exact .inr (.inr (by omega))
     kk:=fun b hb=>by
      rcases hk b hb with e | e
      . exact h.kk b e
      exact .inr (by omega)
     o1:=Own5.set (h.o1.but kb (f gb (.inl rfl)))
     o2:=(h.o2.but kb (f gr (.inr (.inl rfl)))).but k2 (ng gr (.inl rfl))
     b0:=(k2.cell (Nat.lt_of_lt_of_le zk kb.size) (ng gk (.inr (.inl rfl))) 0).trans ((kb.cell zk (f gk (.inr (.inr (.inl rfl)))) 0).trans h.b0)
     b1:=(k2.cell (Nat.lt_of_lt_of_le zk kb.size) (ng gk (.inr (.inl rfl))) 1).trans ((kb.cell zk (f gk (.inr (.inr (.inl rfl)))) 1).trans h.b1)
     bz:=fun o=>(k2.frozen (Nat.lt_of_lt_of_le zk kb.size) (ng gk (.inr (.inl rfl))) o).trans ((kb.frozen zk (f gk (.inr (.inr (.inl rfl)))) o).trans (h.bz o))
     row:=(h.row.but kb fun b o e=>f b (.inr (.inr (.inr (mem_blk e))))).but k2 fun b o e=>ng b (.inr (.inr (mem_blk e)))
     wf:=h.wf
     lo:=fun b hb=>⟨(h.lo b hb).1,Nat.lt_of_lt_of_le (h.lo b hb).2 (Nat.le_trans kb.size k2.size)⟩
     ne:=h.ne
     nk:=h.nk
     nd:=nd' }
theorem kid_ (h:PnSt wb w wr pe0 pn0 K0 d0 d1 d4 s pe ce pn cn K gb gr gk v pk ck xs) {w2:World} {row:Option Nat} (hx : -9223372036854775808<=x/\x<=9223372036854775807) (hR:RowN w2 1 3 (some ⟨g,0,none⟩) cap (xs.map (fun x=>[Value.int .i64 x]) ++ [[.int .i64 x]])) (hG:wr.grownBy w2 row) (hrow:∀ r,row=some r->pk=some ⟨r,0,none⟩) (hg:pk=some ⟨g,0,none⟩ \/ g=wr.heap.size) (hlt:g < w2.heap.size) :
    PnSt wb w (w2.setCell ⟨gk,1,none⟩ (.slice (some ⟨g,0,none⟩) (xs.length+1) cap)) pe0 pn0 K0 d0 d1 d4 s pe ce pn cn K gb gr gk v (some ⟨g,0,none⟩) cap (xs ++ [x]):=by
  have k2:But (blk pk) wr w2:=⟨hG.os,hG.tape,hG.output,hG.size,fun j hj hn=>hG.block j hj fun e=>hn (by rw [hrow j e.symm];simp [blk])⟩
  have hgi:g ∈ blk pk \/ wr.heap.size<=g:=hg.imp (fun e=>by rw [e];simp [blk]) (fun e=>by omega);have k3:But [gk] w2 (w2.setCell ⟨gk,1,none⟩ (.slice (some ⟨g,0,none⟩) (xs.length+1) cap)):=(But.refl _ _).setCell (.inl (by simp)) _;have zk:=cell_lt h.b0;have gblk:∀ b ∈ blk (some (⟨g,0,none⟩:Addr)),b=g:=fun b hb=>by simpa [blk] using hb
  have gnew:∀ b,b < wr.heap.size->b ∉ blk pk->b ≠ g:=fun b hb hn e=>by
   subst e
   rcases hgi with hg | hg
   . exact hn hg
   omega
  have pk_nd:∀ b ∈ blk pk,b ∉ blk pe/\b ∉ blk pn/\b ∉ K.map Prod.fst:=fun b hb=>h.nd b (.inr (.inr (.inr hb)))
  have sz:w2.heap.size=(w2.setCell ⟨gk,1,none⟩ (.slice (some ⟨g,0,none⟩) (xs.length+1) cap)).heap.size:=by simp [World.setCell]
  have s1:=h.but.size;have s2:=k2.size;have lgb:=h.lo gb (.inl rfl);have lgr:=h.lo gr (.inr (.inl rfl));have lgk:=h.lo gk (.inr (.inr (.inl rfl)));have n1:gb ≠ g:=gnew gb lgb.2 h.nk.1;have n2:gr ≠ g:=gnew gr lgr.2 h.nk.2.1;have n3:gk ≠ g:=gnew gk lgk.2 h.nk.2.2
  exact
   { base:=h.base
     pd:=(h.pd.far k2 (fun b hb=>Nat.le_trans h.base (h.lo b (.inr (.inr (.inr hb)))).1) pk_nd).far k3 (fun b hb=>by rw [List.mem_singleton.1 hb];exact Nat.le_trans h.base lgk.1) fun b hb=>by rw [List.mem_singleton.1 hb];exact h.nd gk (.inr (.inr (.inl rfl)))
     but:=(h.but.over k2 fun b hb=>.inr (h.lo b (.inr (.inr (.inr hb)))).1).over k3 fun b hb=>by rw [List.mem_singleton.1 hb];exact .inr lgk.1
     dyn:=h.dyn
     kk:=h.kk
     o1:=(h.o1.but k2 h.nk.1).but k3 (by simpa using h.ne.2.1)
     o2:=(h.o2.but k2 h.nk.2.1).but k3 (by simpa using h.ne.2.2)
     b0:=by
      have e:=(k2.cell zk h.nk.2.2 0).trans h.b0;simp [go_sem,e]
     b1:=by
      have e:=(k2.cell zk h.nk.2.2 1).trans h.b1;simp [go_sem,e]
     bz:=fun o=>by
      have e:=(k2.frozen zk h.nk.2.2 o).trans (h.bz o);simp [go_sem,e]
     row:=by
      rw [List.map_append];exact hR.but k3 fun b o e hm=>by
       cases e
       exact n3 (List.mem_singleton.1 hm).symm
     wf:=fun y hy=>by
      rcases List.mem_append.1 hy with hy | hy
      . exact h.wf y hy
      rw [List.mem_singleton.1 hy];exact hx
     lo:=fun b hb=>by
      rw [<- sz]
      rcases hb with rfl | rfl | rfl | hb
      . exact ⟨lgb.1,by omega⟩
      . exact ⟨lgr.1,by omega⟩
      . exact ⟨lgk.1,by omega⟩
      have:=gblk b hb;subst this
      rcases hgi with e | e
      . exact ⟨(h.lo _ (.inr (.inr (.inr e)))).1,hlt⟩
      exact ⟨by omega,hlt⟩
     ne:=h.ne
     nk:=⟨fun hm=>n1 (gblk _ hm),fun hm=>n2 (gblk _ hm),fun hm=>n3 (gblk _ hm)⟩
     nd:=fun b hb=>by
      rcases hb with e | e | e | hb
      . exact h.nd b (.inl e)
      . exact h.nd b (.inr (.inl e))
      . exact h.nd b (.inr (.inr (.inl e)))
      . have:=gblk b hb;subst this
        rcases hgi with e | e
        . exact pk_nd _ e
        . refine ⟨fun hm=>?_,fun hm=>?_,fun hm=>?_⟩
          . have:=(h.pd.lo _ (.inl hm)).2;omega
          . have:=(h.pd.lo _ (.inr (.inl hm))).2;omega
          . have:=(h.pd.lo _ (.inr (.inr hm))).2;omega }
end PnSt
open Go.RowKit Go.Maps
structure PtIn (wb:World) (z o:List Int) (C:List (Int × Int)) (ps po pc:Option Addr) (cs co cc:Nat):Prop where
 fr:Hp.FrOk z o
 s:SliceAt wb ps cs z
 o:SliceAt wb po co o
 c:RdN wb 2 pc cc (C.map endC)
 pr:prod z<=C.length
 cl:C.length<=100000
def cellV (z:List Int) (C:List (Int × Int)) (p:List Int):Int × Int:=C.getD (num z p).toNat (0,0)
theorem ofP_grows {z:List Int} {V:List Int->Int × Int}:∀ (L p:List Int) (s:Nd.Cl),(Nd.ofP z V L p s).2.ends.length<=s.ends.length+Nd.wt z L/\(Nd.ofP z V L p s).2.nodes.length<=s.nodes.length+Nd.wt z L
 | [],p,s=>by
  have:=(Nd.mEnd_grows (V p) s).1;exact ⟨this.e,this.n⟩
 | c :: r,p,s=>by
  have h:=Nd.mapS_grows (fun g s=>ofP_grows (z:=z) (V:=V) r (p.set c.toNat g) s) (Nd.digs z c) s;simp only [Nd.ofP,Nd.wt];rw [Nd.mNode_ends];generalize Nd.mapS (fun g s=>Nd.ofP z V r (p.set c.toNat g) s) (Nd.digs z c) s=q at h ⊢;have h2:=Nd.mNode_len (c,q.1) q.2;omega
theorem InPl.set_ {P:List Int} (h:InPl z P) {g:Int} (h0:0<=g) (h1:g < z.getD i 0):InPl z (P.set i g):=by
 rw [inPl_iff] at h ⊢
 refine ⟨by rw [List.length_set];exact h.1,fun k hk=>?_⟩
 have:=h.2 k hk
 by_cases e:i=k
 . subst e;rw [List.getD_eq_getElem?_getD,List.getElem?_set,if_pos rfl,if_pos (by rw [h.1];exact hk)];exact ⟨h0,h1⟩
 rw [List.getD_eq_getElem?_getD,List.getElem?_set,if_neg e,<- List.getD_eq_getElem?_getD]
 exact this
theorem upto_take {q:Nat} (h:q < m):(Nd.upto m).take (q+1)=(Nd.upto m).take q ++ [(q:Int)]:=by
 have e:(Nd.upto m)[q]? = some (q:Int):=by simp [Nd.upto,h]
 rw [List.take_add_one,e]
 rfl
theorem upto_len (m:Nat):(Nd.upto m).length=m:=by simp [Nd.upto]
theorem PnSt.after {wr:World} {pe0 pn0:Option Addr} {K0:List (Nat × Nat)} {d0 d1 d4:Value} {s:Nd.Cl} {K:List (Nat × Nat)} {gr gk:Nat} {v:Int} {pk:Option Addr} {ck:Nat} (h:PnSt wb w wr pe0 pn0 K0 d0 d1 d4 s pe ce pn cn K gb gr gk v pk ck xs) {w2:World} {row:Option Nat} (hG:wr.grownBy w2 row) (hrow:∀ r,row=some r->pk=some ⟨r,0,none⟩) :
    w2.cell? ⟨gk,1,none⟩=some (.slice pk xs.length ck)/\w2.frozen? ⟨gk,1,none⟩=false:=by
  have k2:But (blk pk) wr w2:=⟨hG.os,hG.tape,hG.output,hG.size,fun j hj hn=>hG.block j hj fun e=>hn (by rw [hrow j e.symm];simp [blk])⟩
  have zk:=cell_lt h.b0;exact ⟨(k2.cell zk h.nk.2.2 1).trans h.b1,(k2.frozen zk h.nk.2.2 1).trans (h.bz 1)⟩
theorem Row.froz_ {o:Nat} (h:Row w base (some ⟨g,0,none⟩) c l):w.frozen? ⟨g,o,none⟩=false:=by
 rcases h.1.2 with ⟨e,_⟩ | ⟨g',cap,cur,e,_,hg,_⟩
 . cases e
 injection e with e1 e2 e3
 cases e1
 simp [World.frozen?,hg]
theorem SliceAt.set_ (h:SliceAt w (some ⟨g,0,none⟩) c l) (hi:i < l.length) (hx : -9223372036854775808<=x/\x<=9223372036854775807):SliceAt (w.setCell ⟨g,i,none⟩ (.int .i64 x)) (some ⟨g,0,none⟩) c (l.set i x):=by
 refine ⟨by rw [List.length_set];exact h.le,h.cap,fun y hy=>?_,fun _=>?_⟩
 . rcases List.mem_or_eq_of_mem_set hy with hy | hy
   . exact h.wf y hy
   rw [hy];exact hx
 obtain ⟨b,o,e,hb,hc⟩:=h.cells (by omega)
 cases e
 have ci:=hc i l[i] (List.getElem?_eq_getElem hi)
 rw [Nat.zero_add] at ci
 refine ⟨g,0,rfl,by simpa [World.setCell] using hb,fun j y hj=>?_⟩
 rw [Nat.zero_add]
 unfold Hp.rd at hj
 rw [List.getElem?_set] at hj
 by_cases e:i=j
 . subst e;rw [if_pos rfl,if_pos hi] at hj
   cases hj
   simp [go_sem,ci]
 rw [if_neg e] at hj
 have cj:=hc j y hj
 rw [Nat.zero_add] at cj
 simp [go_sem,cj,e]
theorem cell0_ (h:SliceAt w (some ⟨g,0,none⟩) c l) (hx:l[i]? = some x):w.cell? ⟨g,i,none⟩=some (.int .i64 x):=by
 obtain ⟨b,o,e,hb,hc⟩:=h.cells (by have:=(List.getElem?_eq_some_iff.1 hx).1;omega)
 cases e
 have:=hc i x hx
 rwa [Nat.zero_add] at this
theorem wpList_copy_ {ops:Array Oper} {rest:List Oper} {o:Oper} {a:Act} {Q:Exit->Act->World->Prop} (hgd:o.guard=none) (x:Operand)
    (ho:o.op = .call { callee:=.builtin .append,args:=#[.const (.slice none 0 0),x],argTypes:=#[22,22] }) {ad:Addr} {c n:Nat} {l:List Int} (hn:l.length=n) (hx:a.eval x = .slice (some ad) n c) (h0:0 < n) (hl:n<=1000000) (wf:∀ x ∈ l,-9223372036854775808<=x/\x<=9223372036854775807) (hc:∀ j u,(ints l)[j]? = some u->w.cell? (ad.add j)=some u)
    (h:∀ g cap w',Row w' w.heap.size (some ⟨g,0,none⟩) cap l->Ext w w'->w.heap.size<=g->g < w'.heap.size->wpList Tryz.prog ops Q rest (a.put o.dst (.slice (some ⟨g,0,none⟩) n cap)) w'):wpList Tryz.prog ops Q (o :: rest) a w:=by
  obtain ⟨i0,hi,hz0,hz1,hz2⟩:=info_parts (show (Tryz.prog.info? 3).map (fun i=>(i.zero,i.size,i.bytes))=some (some (.int .i64 0),1,8) from by kernel_rfl);subst hn;refine Go.wpList_append_own w hgd (.const (.slice none 0 0)) x 22 ho w.heap.size 3 i0 (.int .i64 0) 1 8 Tryz.underlying22 hi hz0 hz1 hz2 rfl (by decide) _ 0 [] rfl (World.ownsRow_nil w _ _ _) ad l.length c (ints l) hx ?qc1 ?qc2 ?qc3 ?qc4 ?qc5 ?qc6 ?_
  case qc1=>simp [ints]
  case qc2=>exact hc
  case qc3=>intro u hu;obtain ⟨x,_,rfl⟩:=List.mem_map.1 hu;rfl
  case qc4=>unfold maxLen;omega
  case qc5=>omega
  case qc6=>omega
  intro v' w1 hown hgrow hnil;have hE:Ext w w1:=((Below.refl _ w)).grown hgrow (by simp) (by intro k hk;rw [show a.eval (.const (.slice none 0 0)) = .slice none 0 0 from rfl] at hk;simp [Value.ownBlock] at hk)
  rcases id hown.2 with ⟨rfl,hz⟩ | ⟨g,cap,cur,rfl,h1,h2⟩
  . omega
  have R:Row w1 w.heap.size (some ⟨g,0,none⟩) cap l:=⟨by simpa using hown,wf⟩
  simpa using h g cap w1 R hE h1 (Array.getElem?_eq_some_iff.1 h2.1).1
theorem mapS_snoc_ {f:Int->Nd.Cl->Int × Nd.Cl}:∀ (l:List Int) (k:Int) (s:Nd.Cl),Nd.mapS f (l ++ [k]) s=((Nd.mapS f l s).1 ++ [(f k (Nd.mapS f l s).2).1],(f k (Nd.mapS f l s).2).2)
 | [],k,s=>rfl
 | a :: r,k,s=>by simp only [List.cons_append,Nd.mapS,mapS_snoc_ r k (f a s).2]
theorem ofP_rng {z:List Int} {V:List Int->Int × Int}:∀ (L p:List Int) (s:Nd.Cl),-((Nd.ofP z V L p s).2.ends.length:Int)<=(Nd.ofP z V L p s).1/\(Nd.ofP z V L p s).1<=((Nd.ofP z V L p s).2.nodes.length:Int)
 | [],p,s=>by
  simp only [Nd.ofP,Nd.mEnd]
  split
  . rename_i i hi;obtain ⟨h1,_⟩:=List.idxOf?_eq_some_iff.1 hi;simp only;omega
  simp only [List.length_append,List.length_singleton];omega
 | c :: L,p,s=>by
  simp only [Nd.ofP];have hget:=Nd.mapS_get (fun g s=>Nd.ofP_le z V L (p.set c.toNat g) s) (Nd.digs z c) s;generalize Nd.mapS (fun g s=>Nd.ofP z V L (p.set c.toNat g) s) (Nd.digs z c) s=q at hget ⊢;have hin:∀ x ∈ q.1,-(q.2.ends.length:Int)<=x/\x<=(q.2.nodes.length:Int):=fun x hx=>by
   obtain ⟨j,hj⟩:=List.mem_iff_getElem?.1 hx;obtain ⟨g,s',_,rfl,hle⟩:=hget j x hj;have h1:=ofP_rng (z:=z) (V:=V) L (p.set c.toNat g) s';have h2:=hle.1.length_le;have h3:=hle.2.length_le;omega
  unfold Nd.mNode
  split
  . cases e:q.1 with
    | nil=>simp only [List.headD_nil];omega
    | cons a r=>exact hin a (by rw [e];simp)
  split
  . rename_i i hi;obtain ⟨h1,_⟩:=List.idxOf?_eq_some_iff.1 hi;simp only;omega
  simp only [List.length_append,List.length_singleton];omega
theorem PnSt.kids {wr:World} {pe0 pn0:Option Addr} {K0:List (Nat × Nat)} {d0 d1 d4:Value} {s:Nd.Cl} {K:List (Nat × Nat)} {gr gk:Nat} {v:Int} {pk:Option Addr} {ck:Nat} (h:PnSt wb w wr pe0 pn0 K0 d0 d1 d4 s pe ce pn cn K gb gr gk v pk ck xs):SliceAt wr pk ck xs:=by
 have r:=h.row.rd
 refine ⟨by have:=r.le;simpa using this,r.cap,h.wf,fun h0=>?_⟩
 obtain ⟨b,o,e,hb,hc⟩:=r.cells (by simpa using h0)
 refine ⟨b,o,e,hb,fun j x hx=>?_⟩
 have:=hc j [.int .i64 x] 0 _ (by rw [List.getElem?_map,show xs[j]? = some x from hx];rfl) rfl
 simpa using this
theorem PtD.node_cells {E:List (Int × Int)} {N:List (Int × List Int)} {K:List (Nat × Nat)} (h:PtD wb w E N pe ce pn cn K) (h0:0 < N.length):∃ b o,pn=some ⟨b,o,none⟩/\b < w.heap.size /\
    ∀ (j:Nat) (q:Int × List Int) (k:Nat × Nat),N[j]? = some q->K[j]? = some k->w.cell? ⟨b,o+j * 2,none⟩=some (.int .i64 q.1)/\w.cell? ⟨b,o+j * 2+1,none⟩=some (.slice (some ⟨k.1,0,none⟩) q.2.length k.2):=by
  obtain ⟨b,o',e,hb,hc⟩:=h.n.rd.cells (by rw [List.length_zipWith,h.kl,Nat.min_self];exact h0);have hz:∀ (j:Nat) (q:Int × List Int) (k:Nat × Nat),N[j]? = some q->K[j]? = some k->(List.zipWith (fun q k=>nodeC q (some ⟨k.1,0,none⟩,k.2)) N K)[j]? = some [.int .i64 q.1,.slice (some ⟨k.1,0,none⟩) q.2.length k.2]:=fun j q k hq hk=>by
   rw [List.getElem?_zipWith,hq,hk];rfl
  refine ⟨b,o',e,hb,fun j q k hq hk=>⟨?_, ?_⟩⟩
  . exact hc j _ 0 _ (hz j q k hq hk) rfl
  exact hc j _ 1 _ (hz j q k hq hk) rfl
theorem PnSt.fin {wr w6:World} {pe0 pn0:Option Addr} {K0:List (Nat × Nat)} {d0 d1 d4:Value} {s:Nd.Cl} {K:List (Nat × Nat)} {gr gk:Nat} {v:Int} {pk:Option Addr} {ck:Nat} (h:PnSt wb w wr pe0 pn0 K0 d0 d1 d4 s pe ce pn cn K gb gr gk v pk ck xs) (k:But [gr] wr w6) :
    PtD wb w6 s.ends s.nodes pe ce pn cn K/\But (blk pe0 ++ blk pn0) w w6/\(∀ b,b ∈ blk pe \/ b ∈ blk pn->b ∈ blk pe0 \/ b ∈ blk pn0 \/ w.heap.size<=b) /\ ∀ b ∈ K.map Prod.fst,b ∈ K0.map Prod.fst \/ w.heap.size<=b:=
  ⟨h.pd.far k (fun b hb=>by rw [List.mem_singleton.1 hb];exact Nat.le_trans h.base (h.lo gr (.inr (.inl rfl))).1) (fun b hb=>by rw [List.mem_singleton.1 hb];exact h.nd gr (.inr (.inl rfl))),h.but.over k (fun b hb=>by rw [List.mem_singleton.1 hb];exact .inr (h.lo gr (.inr (.inl rfl))).1),h.dyn,h.kk⟩
theorem Own5.set3 {W:World} {c0 c1 c2 c3 c4 d3:Value} (h:Own5 W g c0 c1 c2 c3 c4):Own5 (W.setCell ⟨g,3,none⟩ d3) g c0 c1 c2 d3 c4:=by
 obtain ⟨a0,a1,a2,a3,a4,z⟩:=h
 exact ⟨by simp [go_sem,a0],by simp [go_sem,a1],by simp [go_sem,a2],by simp [go_sem,a3],by simp [go_sem,a4],fun o=>by simp [go_sem,z]⟩
set_option maxRecDepth 100000 in
set_option maxHeartbeats 16000000 in
theorem pt_node {E:List (Int × Int)} {N:List (Int × List Int)} {K:List (Nat × Nat)} {P:List Int} {C:List (Int × Int)} {ps po pc pp:Option Addr} {cs co cc cp W0:Nat} {rt:Int} (I:PtIn wb z o C ps po pc cs co cc) (h:PtD wb w E N pe ce pn cn K) (hp:SliceAt w pp cp P) (hin:InPl z P) (hj:j < o.length) (hpp:∀ b o,pp=some ⟨b,o,none⟩->b ∉ blk pe/\b ∉ blk pn)
    (hew:E.length+Nd.wt z (o.drop j)<=W0/\N.length+Nd.wt z (o.drop j)<=W0) (hW0:W0<=50000)
    (IH:∀ (P':List Int) (w':World) (E':List (Int × Int)) (N':List (Int × List Int)) (pe' pn':Option Addr) (ce' cn':Nat) (K':List (Nat × Nat)) (pp':Option Addr) (cp':Nat),PtD wb w' E' N' pe' ce' pn' cn' K'->SliceAt w' pp' cp' P'->InPl z P'->(∀ b o,pp'=some ⟨b,o,none⟩->b ∉ blk pe'/\b ∉ blk pn')->(E'.length+Nd.wt z (o.drop (j+1))<=W0/\N'.length+Nd.wt z (o.drop (j+1))<=W0) ->
     Calls Tryz.prog 141 #[.agg #[.slice ps z.length cs,.slice po o.length co,.slice pe' E'.length ce',.slice pn' N'.length cn',.int .i64 rt],.slice pc C.length cc,.int .i64 ((j:Int)+1),.slice pp' P'.length cp'] w' (PtPost wb w' ps po cs co z.length o.length rt pe' pn' K' (Nd.ofP z (cellV z C) (o.drop (j+1)) P' ⟨[],E',N'⟩).1 (Nd.ofP z (cellV z C) (o.drop (j+1)) P' ⟨[],E',N'⟩).2)) :
    Calls Tryz.prog 141 #[.agg #[.slice ps z.length cs,.slice po o.length co,.slice pe E.length ce,.slice pn N.length cn,.int .i64 rt],.slice pc C.length cc,.int .i64 j,.slice pp P.length cp] w (PtPost wb w ps po cs co z.length o.length rt pe pn K (Nd.ofP z (cellV z C) (o.drop j) P ⟨[],E,N⟩).1 (Nd.ofP z (cellV z C) (o.drop j) P ⟨[],E,N⟩).2):=by
  have H:=hZ h;have HI:=hZ I;have HIH:=hZ IH;have HP:=hZ hp;have HIN:=hZ hin;have HPP:=hZ hpp;have HEW:=hZ hew;obtain ⟨c,hc⟩:∃ c,o[j]? = some c:=⟨_,List.getElem?_eq_getElem hj⟩
  have hcv:=I.fr.rng c (List.mem_of_getElem? hc);obtain ⟨sz,hsz⟩:=get_list (E:=z) (j:=c.toNat) (by omega);have hsz1:=I.fr.pos sz (List.mem_of_getElem? hsz);have HC:=hZ hc;have HSZ:=hZ hsz;have HCV:=hZ hcv;obtain ⟨bs,os,eps,hbs,hcs⟩:=I.s.cells (by have:=(List.getElem?_eq_some_iff.1 hsz).1;omega);obtain ⟨bo,oo,epo,hbo,hco⟩:=I.o.cells (by omega);obtain ⟨bp,op,epp,hbp,hcp⟩:=hp.cells (by rw [hin.len];have:=(List.getElem?_eq_some_iff.1 hsz).1;omega);have gs:=(h.ext.cell hbs (os+c.toNat)).trans (hcs c.toNat sz hsz);have go_:=(h.ext.cell hbo (oo+j)).trans (hco j c hc);have zs:=cell_lt gs;have zo:=cell_lt go_;have ole:=I.o.le;have ocap:=I.o.cap;have sle:=I.s.le;have scap:=I.s.cap;have ple:=hp.le;have pcap:=hp.cap;have pl:=hin.len;have HPC:=hZ hcp;have few:=I.fr.toFr.few;have fol:=I.fr.len;subst eps epo epp;clear hcs hco hcp hp hin I h IH hpp hew hc hsz;obtain ⟨nz,hnz⟩:∃ m,z.length=m:=⟨_,rfl⟩
  obtain ⟨no,hno⟩:∃ m,o.length=m:=⟨_,rfl⟩
  obtain ⟨ci,rfl⟩:∃ i:Nat,c=(i:Int):=⟨c.toNat,by omega⟩
  rw [Int.toNat_natCast] at gs HSZ;rw [pl];rw [hnz] at sle hcv few fol HCV pl ⊢;rw [hno] at ole hj ⊢;have HNZ:=hZ hnz;have HNO:=hZ hno;have HPL:=hZ pl;have hci:ci < nz:=by omega
  have hno6:no<=6:=by omega
  clear hnz hno fol pl hcv;have t0:((j:Int) == (no:Int))=false:=by simpa using (by omega:¬ (j:Int)=no)
  have mixed:Tryz.prog.follows .mixedOrders=true:=by kernel_rfl
  go_enter Tryz.func141,Tryz.ntmps141;go_upto_region 12 with (fail)
  have S0:=PnSt.start (d0:=.slice (some ⟨bs,os,none⟩) nz cs) (d1:=.slice (some ⟨bo,oo,none⟩) no co) (d4:=.int .i64 rt) H.out (ci:Int) 49 49 41;refine cut_world (F:=fun W=>Hid (PnSt wb w W pe pn K (.slice (some ⟨bs,os,none⟩) nz cs) (.slice (some ⟨bo,oo,none⟩) no co) (.int .i64 rt) ⟨[],E,N⟩ pe ce pn cn K w.heap.size (w.heap.size+1) (w.heap.size+1+1) (ci:Int) none 0 [])) (hZ S0) ?_;clear S0 gs go_ zs zo hbs hbo;intro w1 ST;have HBP:=hZ hbp;clear hbp;generalize w.heap.size+1+1=gy at *;generalize w.heap.size+1=gr at *;obtain ⟨gb,hgb⟩:∃ x,w.heap.size=x:=⟨_,rfl⟩
  rw [hgb] at ST ⊢;have HGB:=hZ hgb;clear hgb;obtain ⟨m,rfl⟩:∃ m:Nat,sz=(m:Int):=⟨sz.toNat,by omega⟩
  have hdg:Nd.digs z (ci:Int)=Nd.upto m:=by
   unfold Nd.digs;rw [Int.toNat_natCast,List.getD_eq_getElem?_getD,HSZ.out];rfl
  have HDG:=hZ hdg;clear hdg
  go_wp2_with fail
  go_loopg [13] m (fun g' iv wr=>∃ (q:Nat) (sq:Nd.Cl) (xs:List Int) (pe':Option Addr) (ce':Nat) (pn':Option Addr) (cn':Nat) (K':List (Nat × Nat)) (pk:Option Addr) (ck:Nat),q<=m/\m-q<=g'/\iv = .int .i64 q/\Hid (PnSt wb w wr pe pn K (.slice (some ⟨bs,os,none⟩) nz cs) (.slice (some ⟨bo,oo,none⟩) no co) (.int .i64 rt) sq pe' ce' pn' cn' K' gb gr gy (ci:Int) pk ck xs)/\Aside (sq.known=[]/\Nd.mapS (fun g s=>Nd.ofP z (cellV z C) (o.drop (j+1)) (P.set ci g) s) ((Nd.upto m).take q) ⟨[],E,N⟩=(xs,sq)))
  case atStart=>exact ⟨0,_,[],pe,ce,pn,cn,K,none,0,Nat.zero_le _,by omega,rfl,ST,⟨rfl,rfl⟩⟩
  case round=>
   obtain ⟨q,sq,xs,pe',ce',pn',cn',K',pk,ck,hq,hg,rfl,SQ,RQ⟩:=hrel;clear ST;obtain ⟨a0,a1,a2,a3,a4,az⟩:=SQ.out.o1;have b0:=SQ.out.b0;have x1:=HI.out.s;have zs1:bs < wb.heap.size:=by obtain ⟨b,o',e,hb,_⟩:=x1.cells (by rw [HNZ.out];omega);cases e;exact hb
   have EB:=SQ.out.pd.ext;have gs:wr.cell? ⟨bs,os+ci,none⟩=some (.int .i64 (m:Int)):=by
    obtain ⟨b,o',e,hb,hc⟩:=x1.cells (by rw [HNZ.out];omega)
    cases e
    exact (EB.cell hb (os+ci)).trans (hc ci _ HSZ.out)
   clear x1
   by_cases hlt:q < m
   . have tk:decide ((q:Int) < (m:Int))=true:=dT;have hpp:=HPP.out bp op rfl;have gbp:=HBP.out;have xc:∀ (j:Nat) (u:Value),(ints P)[j]? = some u->wr.cell? ((⟨bp,op,none⟩:Addr).add j)=some u:=fun j u hu=>by
      unfold ints at hu;rw [List.getElem?_map] at hu;obtain ⟨x,hx,rfl⟩:=Option.map_eq_some_iff.1 hu;rw [Addr.add_lit];exact (SQ.out.but.cell gbp (fun hm=>by rcases List.mem_append.1 hm with hm | hm;exact hpp.1 hm;exact hpp.2 hm) (op+j)).trans (HPC.out j x hx)
     have XC:=hZ xc;clear xc hpp;have WFP:=HP.out.wf;obtain ⟨py,hpy⟩:=get_list (E:=P) (j:=ci) (by rw [HPL.out];exact hci);have npos:0 < nz:=by omega
     have nsm:nz<=1000000:=by omega
     go_upto_region 15 with (at_builtin;refine wpList_copy_ rfl _ rfl HPL.out rfl npos nsm WFP XC.out ?_;intro g1 c1 w2 R1 E1 g1a g1b;have S1:=hZ (SQ.out.ext' E1);have HR1:=hZ R1;have G1:=hZ (And.intro g1a g1b);have HE1:=hZ E1;have b01:=S1.out.b0;have f1:=R1.froz_ (o:=ci);have b12:=cell0_ (R1.at_) hpy;clear R1 E1 g1a g1b)
     go_upto_region 17 with (fail)
     have KW:But [g1] wr (w2.setCell ⟨g1,ci,none⟩ (.int .i64 (q:Int))):=(But.ofExt (l:=[g1]) HE1.out).setCell (.inl (by simp)) _;have SL:=SliceAt.set_ HR1.out.at_ (i:=ci) (x:=(q:Int)) (by rw [HPL.out];exact hci) (by omega);have S2:=SQ.out.far KW (fun b hb=>by rw [List.mem_singleton.1 hb];have:=SQ.out.but.size;have:=G1.out.1;omega) (fun b hb=>by
      rw [List.mem_singleton.1 hb];have g1w:=G1.out.1;refine ⟨⟨fun hm=>?_,fun hm=>?_,fun hm=>?_⟩,fun hm=>?_⟩
      . have:=(SQ.out.pd.lo _ (.inl hm)).2;omega
      . have:=(SQ.out.pd.lo _ (.inr (.inl hm))).2;omega
      . have:=(SQ.out.pd.lo _ (.inr (.inr hm))).2;omega
      . have:=(SQ.out.lo _ hm).2;omega)
     have hpq:∀ b o,some (⟨g1,0,none⟩:Addr)=some ⟨b,o,none⟩->b ∉ blk pe'/\b ∉ blk pn':=fun b o e=>by
      cases e
      have g1w:=G1.out.1;exact ⟨fun hm=>by have:=(SQ.out.pd.lo _ (.inl hm)).2;omega,fun hm=>by have:=(SQ.out.pd.lo _ (.inr (.inl hm))).2;omega⟩
     refine cut_world (F:=fun W=>Hid (PnSt wb w W pe pn K (.slice (some ⟨bs,os,none⟩) nz cs) (.slice (some ⟨bo,oo,none⟩) no co) (.int .i64 rt) sq pe' ce' pn' cn' K' gb gr gy (ci:Int) pk ck xs)/\Hid (SliceAt W (some ⟨g1,0,none⟩) c1 (P.set ci q))) ⟨hZ S2,hZ SL⟩ ?_;clear S2 SL KW S1 HR1 G1 HE1 b01 f1 b12 a0 a1 a2 a3 a4 az b0 gs XC WFP;rintro w3 ⟨S3,SL3⟩;have hgr:=Nd.mapS_grows (f:=fun g s=>Nd.ofP z (cellV z C) (o.drop (j+1)) (P.set ci g) s) (k:=Nd.wt z (o.drop (j+1))) (fun g s=>ofP_grows _ _ _) ((Nd.upto m).take q) ⟨[],E,N⟩;rw [RQ.out.2] at hgr;have hew:=HEW.out;rw [List.drop_eq_getElem_cons (by rw [HNO.out];exact hj)] at hew;have hoj:o[j]'(by rw [HNO.out];exact hj)=(ci:Int):=(List.getElem?_eq_some_iff.1 HC.out).2;rw [hoj] at hew;simp only [Nd.wt,HDG.out,upto_len,List.length_take] at hgr hew;have hmul:q * Nd.wt z (o.drop (j+1))+Nd.wt z (o.drop (j+1))<=m * Nd.wt z (o.drop (j+1)):=by
      rw [<- Nat.succ_mul];exact Nat.mul_le_mul_right _ hlt
     have hmin:min q m=q:=by omega
     rw [hmin] at hgr;have hsq:(⟨[],sq.ends,sq.nodes⟩:Nd.Cl)=sq:=by
      have:=RQ.out.1
      cases sq
      simp only at this;subst this;rfl
     have hzc:z.getD ci 0=(m:Int):=by rw [List.getD_eq_getElem?_getD,HSZ.out];rfl
     have CALL:=HIH.out (P.set ci q) w3 sq.ends sq.nodes pe' pn' ce' cn' K' (some ⟨g1,0,none⟩) c1 S3.out.pd SL3.out (HIN.out.set_ (by omega) (by rw [hzc];omega)) hpq ⟨by omega,by omega⟩;obtain ⟨x,hx⟩:∃ x,(Nd.ofP z (cellV z C) (o.drop (j+1)) (P.set ci (q:Int)) sq).1=x:=⟨_,rfl⟩
     obtain ⟨s2,hs2⟩:∃ s2,(Nd.ofP z (cellV z C) (o.drop (j+1)) (P.set ci (q:Int)) sq).2=s2:=⟨_,rfl⟩
     have hgr2:=ofP_grows (z:=z) (V:=cellV z C) (o.drop (j+1)) (P.set ci (q:Int)) sq;rw [hs2] at hgr2;rw [hsq,hx,hs2,HNZ.out,HNO.out,List.length_set,HPL.out] at CALL;have HX:=hZ hx;have HS2:=hZ hs2;have HCALL:=hZ CALL;have HXL:=hZ (show xs.length=q by
      have:=congrArg (fun p=>p.1.length) RQ.out.2;simp only [Nd.mapS_lenO,List.length_take,upto_len] at this;omega)
     have HGR:=hZ (show s2.ends.length<=W0/\s2.nodes.length<=W0 from ⟨by omega,by omega⟩);clear hx hs2 CALL hpq hgr hgr2 hew hmul hmin hsq hzc hoj;obtain ⟨a0,a1,a2,a3,a4,az⟩:=S3.out.o1;have zgb:=(S3.out.lo gb (.inl rfl)).2;have ngb:gb ∉ blk pe' ++ blk pn':=fun hm=>by
      have h1:=S3.out.nd gb (.inl rfl)
      rcases List.mem_append.1 hm with hm | hm
      . exact h1.1 hm
      exact h1.2.1 hm
     go_upto_region 18 with (go_at_call 141;refine HCALL.out.mono ?_;rintro e w7 ⟨pe7,ce7,pn7,cn7,K7,rfl,P7,B7,D7,KK7⟩;have O7:=S3.out.o1.but B7 ngb;have HP7:=hZ P7;have HB7:=hZ B7;have HD7:=hZ D7;have HK7:=hZ KK7;obtain ⟨e0,e1,e2,e3,e4,ez⟩:=O7;have ez0:=ez 0;have ez1:=ez 1;have ez2:=ez 2;have ez3:=ez 3;have ez4:=ez 4;clear P7 B7 D7 KK7 ez)
     have S8:=S3.out.call_ HP7.out HB7.out HD7.out HK7.out;refine cut_world (F:=fun W=>Hid (PnSt wb w W pe pn K (.slice (some ⟨bs,os,none⟩) nz cs) (.slice (some ⟨bo,oo,none⟩) no co) (.int .i64 rt) s2 pe7 ce7 pn7 cn7 K7 gb gr gy (ci:Int) pk ck xs)) (hZ S8) ?_;clear S8 e0 e1 e2 e3 e4 ez0 ez1 ez2 ez3 ez4 HP7 HB7 HD7 HK7 HCALL S3 SL3 a0 a1 a2 a3 a4 az zgb ngb SQ EB;intro w8 S8;have b1:=S8.out.b1;have EA:Ext w8 (w8.alloc (.cells #[.int .i64 x] 3)):=exx;have S8a:=hZ (S8.out.ext' EA);have RA8:=S8a.out.row;have xlm:(xs.map fun x=>[Value.int .i64 x]).length=xs.length:=List.length_map _;have xfew:xs.length < 10000000:=by rw [HXL.out];omega
     have hxr:=ofP_rng (z:=z) (V:=cellV z C) (o.drop (j+1)) (P.set ci (q:Int)) sq;rw [HX.out,HS2.out] at hxr;have HGR2:=HGR.out;have HXR:Hid (-9223372036854775808<=x/\x<=9223372036854775807):=hZ (by omega);have CX:∀ (i:Nat) (u:Value),[Value.int .i64 x][i]? = some u->(w8.alloc (.cells #[.int .i64 x] 3)).cell? ⟨w8.heap.size,i,none⟩=some u:=fun i u hu=>by
      cases i with
      | zero=>
       obtain rfl:Value.int .i64 x=u:=by simpa using hu
       go_simp
      | succ i=>simp at hu
     clear hxr HGR2 EA
     go_wp2_with (at_builtin;refine wpList_append_N rfl _ _ 22 3 rfl (z:=.int .i64 0) (n:=1) (bytes:=8) Tryz.underlying22 (by kernel_rfl) rfl (by decide) (by decide) xlm rfl rfl RA8 (y:=[.int .i64 x]) rfl CX (by simp [Value.oneCell']) xfew ?_;intro g cap w9 row hR hG hrow hg9 hlt9;obtain ⟨af1,af2⟩:=S8a.out.after hG hrow;have S9:=hZ (S8a.out.kid_ HXR.out hR hG hrow hg9 hlt9);clear hR hG hrow hg9 hlt9)
     have RQ2:Aside (s2.known=[]/\Nd.mapS (fun g s=>Nd.ofP z (cellV z C) (o.drop (j+1)) (P.set ci g) s) ((Nd.upto m).take (q+1)) ⟨[],E,N⟩=(xs ++ [x],s2)):=⟨by rw [<- HS2.out,Nd.ofP_known];exact RQ.out.1,by rw [upto_take hlt,mapS_snoc_,RQ.out.2];simp only [HX.out,HS2.out]⟩
     go_roundg (m-(q+1))
     case measure=>omega
     case rel=>exact ⟨q+1,s2,xs ++ [x],pe7,ce7,pn7,cn7,K7,some ⟨g,0,none⟩,cap,by omega,Nat.le_refl _,by go_num,S9,RQ2⟩
   have:q=m:=by omega
   subst this;have tk:decide ((q:Int) < (q:Int))=false:=dF;have RQ2:Hid (sq.known=[]/\Nd.mapS (fun g s=>Nd.ofP z (cellV z C) (o.drop (j+1)) (P.set ci g) s) (Nd.upto q) ⟨[],E,N⟩=(xs,sq)):=hZ ⟨RQ.out.1,by have:=RQ.out.2;rwa [List.take_of_length_le (by rw [upto_len];exact Nat.le_refl _)] at this⟩;have hxl:xs.length=q:=by
    have:=congrArg (fun p=>p.1.length) RQ2.out.2;simp only [Nd.mapS_lenO,upto_len] at this;omega
   have hof:Nd.ofP z (cellV z C) (o.drop j) P ⟨[],E,N⟩=Nd.mNode ((ci:Int),xs) sq:=by
    rw [List.drop_eq_getElem_cons (by rw [HNO.out];exact hj),(List.getElem?_eq_some_iff.1 HC.out).2];simp only [Nd.ofP,Int.toNat_natCast,HDG.out,RQ2.out.2]
   have HOF:=hZ hof;have KS:=hZ SQ.out.kids;obtain ⟨fb,hfb⟩:∃ fb,Hp.Hs.alike xs=fb:=⟨_,rfl⟩
   have FL:=hZ (fun W (hW:Ext wr W)=>dFlat (v:=(ci:Int)) (KS.out.ext hW) hfb);have HFB:=hZ hfb;have bk1:=SQ.out.b1;have hq1:0 < q:=by omega
   have HWG:=hZ (show w.heap.size=gb from HGB.out);have hgr:=Nd.mapS_grows (f:=fun g s=>Nd.ofP z (cellV z C) (o.drop (j+1)) (P.set ci g) s) (k:=Nd.wt z (o.drop (j+1))) (fun g s=>ofP_grows _ _ _) (Nd.upto q) ⟨[],E,N⟩;rw [RQ2.out.2] at hgr;have hew:=HEW.out;rw [List.drop_eq_getElem_cons (by rw [HNO.out];exact hj),(List.getElem?_eq_some_iff.1 HC.out).2] at hew;simp only [Nd.wt,HDG.out,upto_len] at hgr hew;have hnl:sq.nodes.length<=50000:=by omega
   clear hof hfb RQ RQ2 hgr hew;have xpos:0 < xs.length:=by omega
   have HXL:=hZ hxl;clear hxl;obtain ⟨bq,oq,epk,hbq,hcq⟩:=KS.out.cells xpos;obtain ⟨x0,hx0⟩:=get_list (E:=xs) (j:=0) xpos;have gx0:=hcq 0 x0 hx0;obtain rfl:oq=0:=by
    rcases SQ.out.row.own.2 with ⟨e,_⟩ | ⟨g',_,_,e,_⟩
    . injection e with e1
      rw [epk] at e1
      cases e1
    injection e with e1
    rw [epk] at e1
    cases e1
    rfl
   subst epk;have gnk:=SQ.out.nk;have ngq:gr ≠ bq:=fun e=>gnk.2.1 (by rw [e];simp [blk])
   have GX0:=hZ gx0;have ngg:=SQ.out.ne;have HNL:=hZ hnl;clear hcq gnk gx0 hnl
   cases fb with
   | true=>
    have hm:Nd.mNode ((ci:Int),xs) sq=(x0,sq):=by
     unfold Nd.mNode;rw [if_pos (show Nd.flat xs=true from HFB.out)]
     cases xs with
     | nil=>simp at hx0
     | cons y r=>
      obtain rfl:y=x0:=by simpa using hx0
      rfl
    have HM:=hZ hm;clear hm hx0;go_upto_region 20 with (go_at_call 136;refine (FL.out _ (Ext.refl _)).mono ?_;rintro e w5 ⟨rfl,hE5⟩)
    have S5:=hZ (SQ.out.ext' (hE5.trans (Ext.drew (Ext.refl w5))));have gx5:=((hE5.trans (Ext.drew (Ext.refl w5))).cell hbq _).trans GX0.out;have GX5:=hZ gx5;have qi:(0:Int) < (xs.length:Int):=by omega
    refine wp_region_stores (S:=(fun W:World=>Own5 W gb (.slice (some ⟨bs,os,none⟩) nz cs) (.slice (some ⟨bo,oo,none⟩) no co) (.slice pe' sq.ends.length ce') (.slice pn' sq.nodes.length cn') (.int .i64 rt)/\W.cell? ⟨gy,1,none⟩=some (.slice (some ⟨bq,0,none⟩) xs.length ck)/\W.cell? ⟨bq,0+0,none⟩=some (.int .i64 x0))) [false,false,false,false,false,true,false] (by kernel_rfl) (by kernel_rfl) (fun _ _ d _ _ h=>by cases d <;> exact h) (by kernel_rfl) (by exact ⟨S5.out.o1,S5.out.b1,GX5.out⟩) ?_;intro ops hops';have hops:=hZ hops';clear hops';clear gx5;generalize World.drew w5=w6 at S5 GX5 ⊢;refine' tkT hops ?hy0_1851 ?_
    case hy0_1851=>(intro w hSw;(obtain ⟨⟨y0,y1,y2,y3,y4,yz⟩,ak,ax⟩:=hSw);go_simp;try with_reducible rfl)
    refine layy ?_;refine' tkS hops ?_;refine' tkT hops ?hy2_1853 ?_
    case hy2_1853=>(intro w hSw;(obtain ⟨⟨y0,y1,y2,y3,y4,yz⟩,ak,ax⟩:=hSw);go_simp;try with_reducible rfl)
    refine layy ?_;refine' tkS hops ?_;refine' tkT hops ?hy4_1855 ?_
    case hy4_1855=>(intro w hSw;(obtain ⟨⟨y0,y1,y2,y3,y4,yz⟩,ak,ax⟩:=hSw);go_simp;try with_reducible rfl)
    refine layy ?_;have O6:=hZ (Own5.set (d0:=.slice (some ⟨bs,os,none⟩) nz cs) (d1:=.slice (some ⟨bo,oo,none⟩) no co) (d2:=.slice pe' sq.ends.length ce') (d3:=.slice pn' sq.nodes.length cn') (d4:=.int .i64 rt) S5.out.o2);have K6:=hZ (show But [gr] w6 (((((w6.setCell ⟨gr,0,none⟩ (.slice (some ⟨bs,os,none⟩) nz cs)).setCell ⟨gr,1,none⟩ (.slice (some ⟨bo,oo,none⟩) no co)).setCell ⟨gr,2,none⟩ (.slice pe' sq.ends.length ce')).setCell ⟨gr,3,none⟩ (.slice pn' sq.nodes.length cn')).setCell ⟨gr,4,none⟩ (.int .i64 rt)) from (((((But.refl [gr] w6).setCell (.inl (by simp)) _).setCell (.inl (by simp)) _).setCell (.inl (by simp)) _).setCell (.inl (by simp)) _).setCell (.inl (by simp)) _);obtain ⟨r0,r1,r2,r3,r4,rz⟩:=S5.out.o2;refine PlanS.put (((((w6.setCell ⟨gr,0,none⟩ (.slice (some ⟨bs,os,none⟩) nz cs)).setCell ⟨gr,1,none⟩ (.slice (some ⟨bo,oo,none⟩) no co)).setCell ⟨gr,2,none⟩ (.slice pe' sq.ends.length ce')).setCell ⟨gr,3,none⟩ (.slice pn' sq.nodes.length cn')).setCell ⟨gr,4,none⟩ (.int .i64 rt)) (by first | rfl | (rw [hops.out];rfl)) ?run5 ?hS5 ?next5
    case run5=>go_simp
    case hS5=>exact ⟨S5.out.o1.but K6.out (by simpa using ngg.1),(K6.out.cell (cell_lt S5.out.b1) (by simpa using ngg.2.2.symm) 1).trans S5.out.b1,(K6.out.cell (cell_lt GX5.out) (by simpa using ngq.symm) _).trans GX5.out⟩
    refine layy ?_;clear r0 r1 r2 r3 r4 rz;refine' tkS hops ?_;refine PlanS.done ?_
    go_wp2_with fail
    obtain ⟨u0,u1,u2,u3,u4,-⟩:=O6.out;refine bodyPost_ret (v:=.tuple #[.agg #[.slice (some ⟨bs,os,none⟩) nz cs,.slice (some ⟨bo,oo,none⟩) no co,.slice pe' sq.ends.length ce',.slice pn' sq.nodes.length cn',.int .i64 rt],.int .i64 x0]) (by simp [results,Tryz.results141,go_sem, *]) rfl ?_;rw [HOF.out,HM.out];obtain ⟨f1,f2,f3,f4⟩:=S5.out.fin K6.out;exact ⟨pe',ce',pn',cn',K',rfl,f1,f2,f3,f4⟩
   | false=>
    have hflat:Nd.flat xs=false:=HFB.out;have HFL:=hZ hflat;obtain ⟨nN,hnN⟩:∃ nN,sq.nodes.length=nN:=⟨_,rfl⟩
    have HNN:=hZ hnN;have hnl:=HNL.out;rw [hnN] at hnl;clear hflat hx0 hnN;go_upto_region 22 with (go_at_call 136;refine (FL.out _ (Ext.refl _)).mono ?_;rintro e w5 ⟨rfl,hE5⟩)
    have S5:=hZ (SQ.out.ext' hE5);have KS5:=hZ (KS.out.ext hE5);clear SQ KS FL bk1
    go_loopg [16] nN (fun g' iv w6=>∃ i:Nat,i<=nN/\nN-i<=g'/\iv = .int .i64 i/\Hid (Ext w5 w6)/\Hid (∀ (m:Nat) (y:Int × List Int),m < i->sq.nodes[m]? = some y -> ¬ (y=((ci:Int),xs))))
    case atStart=>exact ⟨0,Nat.zero_le _,by omega,rfl,hZ (Ext.refl _),hZ (fun m y hm=>absurd hm (Nat.not_lt_zero _))⟩
    case round=>
     obtain ⟨i,hi,hg6,rfl,EJ,HA⟩:=hrel;have SJ:=hZ (S5.out.ext' EJ.out);obtain ⟨y0,y1,y2,y3,y4,yz⟩:=SJ.out.o1;have k0:=SJ.out.b0;have k1:=SJ.out.b1;have zg:=cell_lt y3;have zk:=cell_lt k0;rw [HNN.out] at y3
     by_cases hlt:i < nN
     . have tn:decide ((i:Int) < (nN:Int))=true:=dT;obtain ⟨⟨yv,yk⟩,hy⟩:=get_list (E:=sq.nodes) (j:=i) (by rw [HNN.out];exact hlt);obtain ⟨⟨kb,kc⟩,hk⟩:=get_list (E:=K') (j:=i) (by rw [SJ.out.pd.kl,HNN.out];exact hlt);obtain ⟨bn,on,epn,hbn,hcn⟩:=SJ.out.pd.node_cells (by rw [HNN.out];omega);obtain ⟨g1,g2⟩:=hcn i _ _ hy hk;have SK:=hZ (SJ.out.pd.ks i _ _ hy hk);obtain ⟨be2,hbe2⟩:∃ b,decide (yk=xs)=b:=⟨_,rfl⟩
       have SM:=hZ (fun W (hE:Ext _ W)=>dSame_is hbe2 (SK.out.ext hE) ((KS5.out.ext EJ.out).ext hE));have HBS:=hZ hbe2;have HY:=hZ hy;simp only at g1 g2 SM;rw [epn] at y3;have EPN:=hZ epn;clear hcn hy hk hbe2 epn
       by_cases he:yv=(ci:Int)
       . have t0:(yv == (ci:Int))=true:=by simpa using he
         have HE0:=hZ he;clear he
         go_wp2_with fail
         have pr75a:=fun u_ (h_:Ext wr u_)=>(h_.cell zg 3).trans y3
         have pr75b:=fun u_ (h_:Ext wr u_)=>(h_.cell hbn (on+i * 2)).trans g1
         have pr75c:=fun u_ (h_:Ext wr u_)=>(h_.cell hbn (on+i * 2+1)).trans g2
         have pr75d:=fun u_ (h_:Ext wr u_)=>(h_.cell zk 0).trans k0
         have pr75e:=fun u_ (h_:Ext wr u_)=>(h_.cell zk 1).trans k1
         refine wp_region_seq (S:=fun W=>Ext wr W) (R:=Ext) (by kernel_rfl) Ext.refl ?_ ?_
         . exact exx
         refine' tkL 0 ?_;refine' tkL 1 ?_;refine' tkL 2 ?_;refine' tkL 3 ?_;refine' tkL 4 ?_;refine' tkL 5 ?_;refine' tkL 6 ?_;refine' tkL 7 ?_;refine' tkL 8 ?_;refine' tkL 9 ?_;refine' tkL 10 ?_;refine' tkL 11 ?_;refine' tkL 12 ?_;refine' tkL 13 ?_;refine' tkL 14 ?_;refine' tkL 15 ?_;refine' tkL 16 ?_;refine' tkL 17 ?_;refine' tkR 18 (v:=.bool be2) rfl (Or.inr ⟨by rfl,24,_, ?hx18_1875, ?hy18_1875⟩) ?rest18_1875
         case hx18_1875=>(intro w hSw;go_simp;try with_reducible rfl)
         case hy18_1875=>exact fun w hE=>(SM.out _ hE).mono (fun _ _ h=>⟨h.1,h.2,Ext.trans hE h.2⟩)
         refine layy ?_;refine' tkL 19 ?_;refine wpAnyR_done (by kernel_rfl) ?_ _;intro x1 _ Ex1;clear pr75a pr75b pr75c pr75d pr75e
         cases be2 with
         | true=>
          have hyk:yk=xs:=of_decide_eq_true HBS.out;have hidx:sq.nodes.idxOf? ((ci:Int),xs)=some i:=List.idxOf?_eq_some_iff.2 ⟨(List.getElem?_eq_some_iff.1 HY.out).1,by rw [(List.getElem?_eq_some_iff.1 HY.out).2,HE0.out,hyk],fun m hm e=>HA.out m ((ci:Int),xs) hm (by rw [<- e];exact List.getElem?_eq_getElem _) rfl⟩;have hm:Nd.mNode ((ci:Int),xs) sq=((i:Int),sq):=by
           unfold Nd.mNode;rw [if_neg (by rw [show Nd.flat ((ci:Int),xs).2=false from HFL.out];simp),hidx]
          have HM:=hZ hm;have SX:=hZ (SJ.out.ext' Ex1);clear hyk hidx hm y0 y1 y2 y3 y4 yz k0 k1 g1 g2;obtain ⟨y0,y1,y2,y3,y4,yz⟩:=SX.out.o1;have O6:=hZ (Own5.set (d0:=.slice (some ⟨bs,os,none⟩) nz cs) (d1:=.slice (some ⟨bo,oo,none⟩) no co) (d2:=.slice pe' sq.ends.length ce') (d3:=.slice pn' sq.nodes.length cn') (d4:=.int .i64 rt) SX.out.o2);have K6:=hZ (show But [gr] x1 (((((x1.setCell ⟨gr,0,none⟩ (.slice (some ⟨bs,os,none⟩) nz cs)).setCell ⟨gr,1,none⟩ (.slice (some ⟨bo,oo,none⟩) no co)).setCell ⟨gr,2,none⟩ (.slice pe' sq.ends.length ce')).setCell ⟨gr,3,none⟩ (.slice pn' sq.nodes.length cn')).setCell ⟨gr,4,none⟩ (.int .i64 rt)) from (((((But.refl [gr] x1).setCell (.inl (by simp)) _).setCell (.inl (by simp)) _).setCell (.inl (by simp)) _).setCell (.inl (by simp)) _).setCell (.inl (by simp)) _);obtain ⟨r0,r1,r2,r3,r4,rz⟩:=SX.out.o2;go_wp2;clear r0 r1 r2 r3 r4 rz y0 y1 y2 y3 y4 yz;obtain ⟨u0,u1,u2,u3,u4,-⟩:=O6.out;refine bodyPost_ret (v:=.tuple #[.agg #[.slice (some ⟨bs,os,none⟩) nz cs,.slice (some ⟨bo,oo,none⟩) no co,.slice pe' sq.ends.length ce',.slice pn' sq.nodes.length cn',.int .i64 rt],.int .i64 i]) (by simp [results,Tryz.results141,go_sem, *]) rfl ?_;rw [HOF.out,HM.out];obtain ⟨f1,f2,f3,f4⟩:=SX.out.fin K6.out;exact ⟨pe',ce',pn',cn',K',rfl,f1,f2,f3,f4⟩
         | false=>
          go_wp2_with fail
          go_roundg (nN-(i+1))
          case measure=>omega
          case rel=>
           refine ⟨i+1,by omega,Nat.le_refl _,by go_num,hZ (EJ.out.trans Ex1),hZ (fun m y hm hy=>?_)⟩
           by_cases e:m=i
           . subst e;rw [HY.out] at hy
             cases hy
             intro e;exact (of_decide_eq_false HBS.out) (congrArg Prod.snd e)
           exact HA.out m y (by omega) hy
       have t0:(yv == (ci:Int))=false:=by simpa using he
       have HE0:=hZ he;clear he
       go_wp2_with fail
       have pr76a:=fun u_ (h_:Ext wr u_)=>(h_.cell zg 3).trans y3
       have pr76b:=fun u_ (h_:Ext wr u_)=>(h_.cell hbn (on+i * 2)).trans g1
       have pr76c:=fun u_ (h_:Ext wr u_)=>(h_.cell zk 0).trans k0
       refine wp_region_seq (S:=fun W=>Ext wr W) (R:=Ext) (by kernel_rfl) Ext.refl ?_ ?_
       . exact exx
       refine' tkL 0 ?_;refine' tkL 1 ?_;refine' tkL 2 ?_;refine' tkL 3 ?_;refine' tkL 4 ?_;refine' tkL 5 ?_;refine' tkL 6 ?_;refine' tkL 7 ?_;refine' tkL 8 ?_;refine' tkL 9 ?_;refine' tkN 10 ?_;refine' tkN 11 ?_;refine' tkN 12 ?_;refine' tkN 13 ?_;refine' tkN 14 ?_;refine' tkN 15 ?_;refine' tkN 16 ?_;refine' tkN 17 ?_;refine' tkN 18 ?_;refine' tkL 19 ?_;refine wpAnyR_done (by kernel_rfl) ?_ _;intro x1 _ Ex1;clear pr76a pr76b pr76c
       go_wp2_with fail
       go_roundg (nN-(i+1))
       case measure=>omega
       case rel=>
        refine ⟨i+1,by omega,Nat.le_refl _,by go_num,hZ (EJ.out.trans Ex1),hZ (fun m y hm hy=>?_)⟩
        by_cases e:m=i
        . subst e;rw [HY.out] at hy
          cases hy
          intro e;exact HE0.out (congrArg Prod.fst e)
        exact HA.out m y (by omega) hy
     have:i=nN:=by omega
     subst this;have tn:decide ((i:Int) < (i:Int))=false:=dF;have hidx:sq.nodes.idxOf? ((ci:Int),xs)=none:=List.idxOf?_eq_none_iff.2 fun hm=>by
      obtain ⟨m,hm⟩:=List.mem_iff_getElem?.1 hm;exact HA.out m _ (by have:=(List.getElem?_eq_some_iff.1 hm).1;rw [HNN.out] at this;exact this) hm rfl
     have hm:Nd.mNode ((ci:Int),xs) sq=((i:Int),{ sq with nodes:=sq.nodes ++ [((ci:Int),xs)] }):=by
      unfold Nd.mNode;rw [if_neg (by rw [show Nd.flat ((ci:Int),xs).2=false from HFL.out];simp),hidx];simp only [HNN.out]
     have HM:=hZ hm;clear hidx hm;have lgb:=SJ.out.lo gb (.inl rfl);have lgr:=SJ.out.lo gr (.inr (.inl rfl));have lgq:=SJ.out.lo bq (.inr (.inr (.inr (by simp [blk]))));have LL:=hZ (And.intro lgb (And.intro lgr lgq));have ngb:=SJ.out.nd gb (.inl rfl);have ngr:=SJ.out.nd gr (.inr (.inl rfl));have nbq:=SJ.out.nd bq (.inr (.inr (.inr (by simp [blk]))));have NN:=hZ (And.intro ngb (And.intro ngr nbq));clear lgb lgr lgq ngb ngr nbq;have zmin:(List.zipWith (fun q k=>nodeC q (some ⟨k.1,0,none⟩,k.2)) sq.nodes K').length=i:=by rw [List.length_zipWith,SJ.out.pd.kl,Nat.min_self,HNN.out]
     have ifew:i < 10000000:=by omega
     go_upto_region 27 with (at_builtin;refine wpList_append_N rfl _ _ 47 41 rfl (z:=.agg #[.int .i64 0,.slice none 0 0]) (n:=2) (bytes:=32) Tryz.underlying47 (by kernel_rfl) rfl (by decide) (by decide) (m:=i) zmin rfl rfl (SJ.out.pd.n.ext (exx)) (y:=nodeC ((ci:Int),xs) (some ⟨bq,0,none⟩,ck)) rfl (cells2 (by go_simp) (by go_simp)) (by simp [nodeC,Value.oneCell']) ifew ?_;intro g cap w9 row hR hG hrow hg9 hlt9;have EA:Ext wr (wr.alloc (.cells #[.int .i64 (ci:Int),.slice (some ⟨bq,0,none⟩) xs.length ck] 41)):=exx;have Sa:=SJ.out.ext' EA;have NB:=Sa.pd.node_ (q:=((ci:Int),xs)) hR hG hrow hg9 hlt9 Sa.kids ⟨Nat.le_trans Sa.base LL.out.2.2.1,Nat.lt_of_lt_of_le LL.out.2.2.2 EA.le⟩ ⟨NN.out.2.2.1,NN.out.2.2.2.1⟩;have P9:=hZ NB.1;have KB:=hZ NB.2.1;have GI:=hZ (show g ∈ blk pn' \/ wr.heap.size<=g from NB.2.2.imp id (fun h=>Nat.le_trans EA.le h));have S1:=Sa.o1.but NB.2.1 NN.out.1.2.1;have S2:=Sa.o2.but NB.2.1 NN.out.2.1.2.1;have HS1:=hZ S1;have HS2:=hZ S2;have SB:=hZ Sa.but;obtain ⟨y0,y1,y2,y3,y4,yz⟩:=S1;have yz3:=yz 3;clear Sa NB hR hG hrow hg9 hlt9 S2)
     have gnb:gb ≠ g:=fun e=>by
      rcases GI.out with h | h
      . exact NN.out.1.2.1 (e ▸ h)
      have:=LL.out.1.2;omega
     have gnr:gr ≠ g:=fun e=>by
      rcases GI.out with h | h
      . exact NN.out.2.1.2.1 (e ▸ h)
      have:=LL.out.2.1.2;omega
     have k3:But [gb] w9 (w9.setCell ⟨gb,3,none⟩ (.slice (some ⟨g,0,none⟩) (i+1) cap)):=(But.refl _ _).setCell (.inl (by simp)) _;have nK:∀ b,b ∈ (K' ++ [(bq,ck)]).map Prod.fst->b ∈ K'.map Prod.fst \/ b=bq:=fun b hb=>by
      rw [List.map_append] at hb
      rcases List.mem_append.1 hb with hb | hb
      . exact .inl hb
      exact .inr (by simpa using hb)
     have HNK:=hZ nK;have nqb:gb ≠ bq:=fun e=>by have h1:=SJ.out.nk.1;exact h1 (by rw [e];simp [blk])
     refine cut_world (F:=fun W=>Hid (PtD wb W sq.ends (sq.nodes ++ [((ci:Int),xs)]) pe' ce' (some ⟨g,0,none⟩) cap (K' ++ [(bq,ck)])/\But (blk pe ++ blk pn) w W)/\Hid (Own5 W gb (.slice (some ⟨bs,os,none⟩) nz cs) (.slice (some ⟨bo,oo,none⟩) no co) (.slice pe' sq.ends.length ce') (.slice (some ⟨g,0,none⟩) (i+1) cap) (.int .i64 rt))/\Hid (Own5 W gr (.slice none 0 0) (.slice none 0 0) (.slice none 0 0) (.slice none 0 0) (.int .i64 0))) ⟨hZ ⟨P9.out.far k3 (fun b hb=>by rw [List.mem_singleton.1 hb];exact Nat.le_trans SJ.out.base LL.out.1.1) (fun b hb=>by
      rw [List.mem_singleton.1 hb];refine ⟨NN.out.1.1,fun hm=>gnb (by simpa [blk] using hm),fun hm=>?_⟩
      rcases HNK.out _ hm with h | h
      . exact NN.out.1.2.2 h
      . exact nqb h),(SB.out.over KB.out (fun b hb=>by
        rcases SJ.out.dyn b (.inr hb) with e | e | e
        . exact .inl (List.mem_append_left _ e)
        . exact .inl (List.mem_append_right _ e)
        . exact .inr e)).over k3 (fun b hb=>by rw [List.mem_singleton.1 hb];exact .inr LL.out.1.1)⟩,hZ (Own5.set3 HS1.out),hZ (HS2.out.but k3 (by simpa using ngg.1.symm))⟩ ?_
     clear y0 y1 y2 y3 y4 yz yz3 HS1 HS2 P9 KB SB k3 nK k0 k1;rintro w4 ⟨PB,OB,OR⟩;have v0:IntKind.i64.wrap (i:Int)=(i:Int):=IntWalk.i64_in _ (by omega);refine wp_region_stores (S:=(fun W:World=>Own5 W gb (.slice (some ⟨bs,os,none⟩) nz cs) (.slice (some ⟨bo,oo,none⟩) no co) (.slice pe' sq.ends.length ce') (.slice (some ⟨g,0,none⟩) (i+1) cap) (.int .i64 rt))) [false,false,false,false,false,true,false] (by kernel_rfl) (by kernel_rfl) (fun _ _ d _ _ h=>by cases d <;> exact h) (by kernel_rfl) (by exact OB.out.ext (Ext.drew (Ext.refl _))) ?_;intro ops hops';have hops:=hZ hops';clear hops';have OBD:=hZ (OB.out.ext (Ext.drew (Ext.refl w4)));have ORD:=hZ (OR.out.ext (Ext.drew (Ext.refl w4)));have PBD:=hZ (show PtD wb w4.drew sq.ends (sq.nodes ++ [((ci:Int),xs)]) pe' ce' (some ⟨g,0,none⟩) cap (K' ++ [(bq,ck)])/\But (blk pe ++ blk pn) w w4.drew from ⟨PB.out.1.ext' (Ext.drew (Ext.refl _)),PB.out.2.drew⟩);generalize World.drew w4=w6 at OBD ORD PBD ⊢;clear OB OR PB;refine' tkT hops ?hy0_1897 ?_
     case hy0_1897=>(intro w hSw;(obtain ⟨b0,b1,b2,b3,b4,bz⟩:=hSw);go_simp;try with_reducible rfl)
     refine layy ?_;refine' tkS hops ?_;refine' tkT hops ?hy2_1899 ?_
     case hy2_1899=>(intro w hSw;(obtain ⟨b0,b1,b2,b3,b4,bz⟩:=hSw);go_simp;try with_reducible rfl)
     refine layy ?_;refine' tkS hops ?_;refine' tkS hops ?_;have O6:=hZ (Own5.set (d0:=.slice (some ⟨bs,os,none⟩) nz cs) (d1:=.slice (some ⟨bo,oo,none⟩) no co) (d2:=.slice pe' sq.ends.length ce') (d3:=.slice (some ⟨g,0,none⟩) (i+1) cap) (d4:=.int .i64 rt) ORD.out);have K6:=hZ (show But [gr] w6 (((((w6.setCell ⟨gr,0,none⟩ (.slice (some ⟨bs,os,none⟩) nz cs)).setCell ⟨gr,1,none⟩ (.slice (some ⟨bo,oo,none⟩) no co)).setCell ⟨gr,2,none⟩ (.slice pe' sq.ends.length ce')).setCell ⟨gr,3,none⟩ (.slice (some ⟨g,0,none⟩) (i+1) cap)).setCell ⟨gr,4,none⟩ (.int .i64 rt)) from (((((But.refl [gr] w6).setCell (.inl (by simp)) _).setCell (.inl (by simp)) _).setCell (.inl (by simp)) _).setCell (.inl (by simp)) _).setCell (.inl (by simp)) _);obtain ⟨r0,r1,r2,r3,r4,rz⟩:=ORD.out;refine PlanS.put (((((w6.setCell ⟨gr,0,none⟩ (.slice (some ⟨bs,os,none⟩) nz cs)).setCell ⟨gr,1,none⟩ (.slice (some ⟨bo,oo,none⟩) no co)).setCell ⟨gr,2,none⟩ (.slice pe' sq.ends.length ce')).setCell ⟨gr,3,none⟩ (.slice (some ⟨g,0,none⟩) (i+1) cap)).setCell ⟨gr,4,none⟩ (.int .i64 rt)) (by first | rfl | (rw [hops.out];rfl)) ?run5b ?hS5b ?next5b
     case run5b=>go_simp
     case hS5b=>exact OBD.out.but K6.out (by simpa using ngg.1)
     refine layy ?_;clear r0 r1 r2 r3 r4 rz;refine' tkS hops ?_;refine PlanS.done ?_
     go_wp2_with fail
     obtain ⟨u0,u1,u2,u3,u4,-⟩:=O6.out;refine bodyPost_ret (v:=.tuple #[.agg #[.slice (some ⟨bs,os,none⟩) nz cs,.slice (some ⟨bo,oo,none⟩) no co,.slice pe' sq.ends.length ce',.slice (some ⟨g,0,none⟩) (i+1) cap,.int .i64 rt],.int .i64 i]) (by simp [results,Tryz.results141,go_sem, *]) rfl ?_;rw [HOF.out,HM.out];have el:(sq.nodes ++ [((ci:Int),xs)]).length=i+1:=by rw [List.length_append,HNN.out];rfl
     refine ⟨pe',ce',some ⟨g,0,none⟩,cap,K' ++ [(bq,ck)],by simp only [el],PBD.out.1.far K6.out (fun b hb=>by rw [List.mem_singleton.1 hb];exact Nat.le_trans SJ.out.base LL.out.2.1.1) (fun b hb=>by
      rw [List.mem_singleton.1 hb];refine ⟨NN.out.2.1.1,fun hm=>gnr (by simpa [blk] using hm),fun hm=>?_⟩
      rcases HNK.out _ hm with h | h
      . exact NN.out.2.1.2.2 h
      . exact ngq h),PBD.out.2.over K6.out (fun b hb=>by rw [List.mem_singleton.1 hb];exact .inr LL.out.2.1.1),fun b hb=>?_,fun b hb=>?_⟩
     . rcases hb with hb | hb
       . exact SJ.out.dyn b (.inl hb)
       have e:b=g:=by simpa [blk] using hb
       subst e
       rcases GI.out with h | h
       . exact SJ.out.dyn _ (.inr h)
       exact .inr (.inr (by have:=SJ.out.but.size;omega))
     rcases HNK.out _ hb with h | h
     . exact SJ.out.kk b h
     subst h;exact .inr LL.out.2.2.1
section
variable {P:Program} {ops:Array Oper} {Q:Exit->Act->World->Prop} {md:Region.Mode} {S:World->Prop}
theorem wpAnyE_one {fuel:Nat} {listed:Array Bool} {a:Act} (i:Nat) (hr:Region.ready md ops listed=[i]) (h:wpOp P ops Q i (fun a' w''=>S w''/\wpAnyR P md ops Q S Eq fuel (listed.setIfInBounds i true) a' w'') a w):wpAnyR P md ops Q S Eq (fuel+1) listed a w:=by
 intro w' r s
 subst r
 refine ⟨fun e=>(by rw [hr] at e;cases e),fun j hj=>?_⟩
 rw [hr] at hj
 rw [List.mem_singleton.1 hj]
 exact h
theorem wpAnyE_two {fuel:Nat} {listed:Array Bool} {a:Act} {w'':World} (i j:Nat) {oi oj:Oper} {v u:Value} (hi:ops[i]? = some oi) (hj:ops[j]? = some oj) (h1:Region.ready md ops listed=[i,j]) (h2:Region.ready md ops (listed.setIfInBounds i true)=[j]) (h3:Region.ready md ops (listed.setIfInBounds j true)=[i])
    (wi:Region.wanted oi (yielded ops a.tmps)=true) (wi2:Region.wanted oi (yielded ops (a.put oj.dst u).tmps)=true) (wj:Region.wanted oj (yielded ops a.tmps)=true) (wj2:Region.wanted oj (yielded ops (a.put oi.dst v).tmps)=true)
    (ri:(execOp a.eval oi).run P w = .ok (.value v) w) (ri2:(execOp (a.put oj.dst u).eval oi).run P w'' = .ok (.value v) w'') (rj:(execOp a.eval oj).run P w = .ok (.value u) w'') (rj2:(execOp (a.put oi.dst v).eval oj).run P w = .ok (.value u) w'')
    (hc:(a.put oj.dst u).put oi.dst v=(a.put oi.dst v).put oj.dst u) (hl:(listed.setIfInBounds j true).setIfInBounds i true=(listed.setIfInBounds i true).setIfInBounds j true) (hS:S w) (hS2:S w'')
    (k:wpAnyR P md ops Q S Eq fuel ((listed.setIfInBounds i true).setIfInBounds j true) ((a.put oi.dst v).put oj.dst u) w''):wpAnyR P md ops Q S Eq (fuel+1+1) listed a w:=by
  intro w' r s;subst r;refine ⟨fun e=>(by rw [h1] at e;cases e),fun q hq=>?_⟩
  rw [h1] at hq;have hq:q=i \/ q=j:=by simpa using hq
  rcases hq with rfl | rfl
  . refine wpOp_value hi wi ri ⟨hS,wpAnyE_one j h2 (wpOp_value hj wj2 rj2 ⟨hS2,k⟩)⟩
  refine wpOp_value hj wj rj ⟨hS2,wpAnyE_one i h3 (wpOp_value hi wi2 ri2 ⟨hS2, ?_⟩)⟩;rw [hl,hc];exact k
end
theorem wp_copy_ {o:Oper} {a:Act} {K:Act->World->Prop} {Q:Exit->Act->World->Prop} (x:Operand) (ho:o.op = .call { callee:=.builtin .append,args:=#[.const (.slice none 0 0),x],argTypes:=#[22,22] }) (hx:a.eval x = .slice p l.length c) (hs:SliceAt w p c l) (hp:p=none->c=0) (hl:l.length<=1000000)
    (h:∀ p' cap w',Row w' w.heap.size p' cap l->Ext w w'->K (a.put o.dst (.slice p' l.length cap)) w'):o.wp Tryz.prog a w K Q:=by
  obtain ⟨i0,hi,hz0,hz1,hz2⟩:=info_parts (show (Tryz.prog.info? 3).map (fun i=>(i.zero,i.size,i.bytes))=some (some (.int .i64 0),1,8) from by kernel_rfl)
  cases p with
  | none=>
   have hc:=hp rfl;have hle:=hs.le;have hl0:l=[]:=List.eq_nil_of_length_eq_zero (by omega);subst hc hl0;have hk:=h none 0 w (Row.nil _ _) (Ext.refl _);have hr:(Builtin.append_ #[22,22] o.type #[.slice none 0 0,.slice none 0 0]).run Tryz.prog w = .ok (.slice none 0 0) w:=by
    simp [Builtin.append_,run_underlying Tryz.underlying22,sizeOf,typeInfo,hi,Builtin.lenOf,Builtin.firstCells,loadCells,loadCellsFrom]
   unfold Oper.wp execOp;rw [List.length_nil] at hx;simp only [ho,resolve,invoke,builtin,Sem.run_bind,Sem.run_pure,Result.andThen_ok,List.map_toArray,List.map_cons,List.map_nil,hx,show a.eval (.const (.slice none 0 0)) = .slice none 0 0 from rfl,hr];exact hk
  | some ad=>
   have hnews:∀ j u,(ints l)[j]? = some u->w.cell? (ad.add j)=some u:=fun j u hj=>by
    obtain ⟨hj1,hj2⟩:=List.getElem?_eq_some_iff.1 hj;have hj3:j < l.length:=by simpa [ints] using hj1
    obtain ⟨b,o',e,hb,hc⟩:=hs.cells (by omega)
    cases e
    rw [Addr.add_lit,hc j l[j] (List.getElem?_eq_getElem hj3),<- hj2];simp [ints]
   refine Go.wp_append_own w (.const (.slice none 0 0)) x 22 ho w.heap.size 3 i0 (.int .i64 0) 1 8 Tryz.underlying22 hi hz0 hz1 hz2 rfl (by decide) _ 0 [] rfl (World.ownsRow_nil w _ _ _) ad l.length c (ints l) hx ?qc1 hnews ?qc3 ?qc4 ?qc5 (Nat.le_refl _) ?_
   case qc1=>simp [ints]
   case qc3=>intro u hu;obtain ⟨x,_,rfl⟩:=List.mem_map.1 hu;rfl
   case qc4=>unfold maxLen;omega
   case qc5=>omega
   intro v' w1 hown hgrow hnil;have hE:Ext w w1:=((Below.refl _ w)).grown hgrow (by simp) (by intro k hk;rw [show a.eval (.const (.slice none 0 0)) = .slice none 0 0 from rfl] at hk;simp [Value.ownBlock] at hk)
   rcases id hown.2 with ⟨rfl,hz⟩ | ⟨g,cap,cur,rfl,h1,h2⟩
   . have hl0:l=[]:=List.eq_nil_of_length_eq_zero (by omega);subst hl0;exact h none 0 w1 (Row.nil _ _) hE
   have R:Row w1 w.heap.size (some ⟨g,0,none⟩) cap l:=⟨by simpa using hown,hs.wf⟩
   simpa using h (some ⟨g,0,none⟩) cap w1 R hE
theorem wpList_copyR {ops:Array Oper} {rest:List Oper} {o:Oper} {a:Act} {Q:Exit->Act->World->Prop} (hgd:o.guard=none) (x:Operand) (ho:o.op = .call { callee:=.builtin .append,args:=#[.const (.slice none 0 0),x],argTypes:=#[22,22] }) (hx:a.eval x = .slice p l.length c) (hs:SliceAt w p c l) (hp:p=none->c=0) (hl:l.length<=1000000)
    (h:∀ p' cap w',Row w' w.heap.size p' cap l->Ext w w'->wpList Tryz.prog ops Q rest (a.put o.dst (.slice p' l.length cap)) w'):wpList Tryz.prog ops Q (o :: rest) a w:=
  wpList_plain hgd fun _ hK=>wp_copy_ x ho hx hs hp hl fun p' cap w' h2 h3=>hK _ _ (h p' cap w' h2 h3)
theorem wpOp_copyR {ops:Array Oper} {o:Oper} {a:Act} {K:Act->World->Prop} {Q:Exit->Act->World->Prop} (hi:ops[i]? = some o) (hw:Region.wanted o (yielded ops a.tmps)=true) (x:Operand) (ho:o.op = .call { callee:=.builtin .append,args:=#[.const (.slice none 0 0),x],argTypes:=#[22,22] }) (hx:a.eval x = .slice p l.length c) (hs:SliceAt w p c l) (hp:p=none->c=0) (hl:l.length<=1000000)
    (h:∀ p' cap w',Row w' w.heap.size p' cap l->Ext w w'->K (a.put o.dst (.slice p' l.length cap)) w'):wpOp Tryz.prog ops Q i K a w:=by
  unfold Go.wpOp;simp only [hi];rw [if_pos hw];exact .inl (wp_copy_ x ho hx hs hp hl h)
theorem PtD.dg {E:List (Int × Int)} {N:List (Int × List Int)} {K:List (Nat × Nat)} (h:PtD wb w E N pe ce pn cn K) {p1 p2:Option Addr} {c1 c2:Nat} (h1:SliceAt w p1 c1 z) (h2:SliceAt w p2 c2 o) :
    DgRd w ⟨p1,c1,p2,c2,pe,ce,pn,cn,K.map fun k=>(some ⟨k.1,0,none⟩,k.2)⟩ z o E N where
  s:=h1
  o:=h2
  e:=h.e.rd
  n:=by
   have:=h.n.rd;rw [List.zipWith_map_right];exact this
  kl:=by simp [h.kl]
  ks:=fun j q k hq hk=>by
   rw [List.getElem?_map] at hk;obtain ⟨kk,hkk,rfl⟩:=Option.map_eq_some_iff.1 hk;exact h.ks j q kk hq hkk
theorem pt_any {wb:World} {z o:List Int} {C:List (Int × Int)} {ps po pc:Option Addr} {cs co cc W0:Nat} {rt:Int} (I:PtIn wb z o C ps po pc cs co cc) (hW0:W0<=50000):∀ (m j:Nat),j+m=o.length -> ∀ (P:List Int) (w:World) (E:List (Int × Int)) (N:List (Int × List Int)) (pe pn:Option Addr) (ce cn:Nat) (K:List (Nat × Nat)) (pp:Option Addr) (cp:Nat),PtD wb w E N pe ce pn cn K->SliceAt w pp cp P->InPl z P->(∀ b o,pp=some ⟨b,o,none⟩->b ∉ blk pe/\b ∉ blk pn)->(E.length+Nd.wt z (o.drop j)<=W0/\N.length+Nd.wt z (o.drop j)<=W0) ->
    Calls Tryz.prog 141 #[.agg #[.slice ps z.length cs,.slice po o.length co,.slice pe E.length ce,.slice pn N.length cn,.int .i64 rt],.slice pc C.length cc,.int .i64 j,.slice pp P.length cp] w (PtPost wb w ps po cs co z.length o.length rt pe pn K (Nd.ofP z (cellV z C) (o.drop j) P ⟨[],E,N⟩).1 (Nd.ofP z (cellV z C) (o.drop j) P ⟨[],E,N⟩).2)
  | 0,j,hj,P,w,E,N,pe,pn,ce,cn,K,pp,cp,h,hp,hin,_,hw=>by
   have hjo:j=o.length:=by omega
   subst hjo;rw [List.drop_eq_nil_of_le (Nat.le_refl _)] at hw ⊢;have cl:=I.cl;have few:=I.fr.toFr.few;have sle:=I.o.le;have scap:=I.o.cap;exact pt_end h (I.s.ext h.ext) ⟨sle,scap⟩ (I.c.ext h.ext) hp (fun s hs=>(I.fr.pos s hs).1) hin (by omega) I.pr (by omega) (by omega)
  | m+1,j,hj,P,w,E,N,pe,pn,ce,cn,K,pp,cp,h,hp,hin,hpp,hw=>
   pt_node I h hp hin (by omega) hpp hw hW0 fun P' w' E' N' pe' pn' ce' cn' K' pp' cp' h' hp' hin' hpp' hw'=>by
    have:=pt_any (rt:=rt) I hW0 m (j+1) (by omega) P' w' E' N' pe' pn' ce' cn' K' pp' cp' h' hp' hin' hpp' hw';rw [show (((j+1:Nat):Int))=(j:Int)+1 by omega] at this;exact this
theorem row_blk_ (h:Row w base p c l) (hb:b ∈ blk p):∃ o,p=some ⟨b,o,none⟩:=by
 rcases h.1.2 with ⟨e,_⟩ | ⟨g,_,_,e,_⟩
 . injection e with e1
   subst e1;simp [blk] at hb
 injection e with e1
 subst e1
 have:b=g:=by simpa [blk] using hb
 subst this
 exact ⟨0,rfl⟩
set_option maxRecDepth 100000 in
set_option maxHeartbeats 16000000 in
theorem dOf {ps po pc:Option Addr} {cs co cc:Nat} {C:List (Int × Int)} (hs:SliceAt w ps cs z) (ho:SliceAt w po co o) (hps:ps=none->cs=0) (hpo:po=none->co=0) (hc:RdN w 2 pc cc (C.map endC)) (fr:Hp.FrOk z o) (hpr:prod z<=C.length) (hC:C.length<=100000) (hwt:Nd.wt z o<=14000) :
    Calls Tryz.prog 92 #[.slice ps z.length cs,.slice po o.length co,.slice pc C.length cc] w fun e w'=>∃ Lg:DgL,e = .returned (dgV Lg z.length o.length (ofD_ z o (cellV z C)).ends.length (ofD_ z o (cellV z C)).nodes.length (ofD_ z o (cellV z C)).root)/\DgRd w' Lg z o (ofD_ z o (cellV z C)).ends (ofD_ z o (cellV z C)).nodes/\Ext w w' /\ ∀ b ∈ Lg.blocks,w.heap.size<=b:=by
  have HS:=hZ (fun W (hE:Ext w W)=>hs.ext hE);have HO:=hZ (fun W (hE:Ext w W)=>ho.ext hE);have HPS:=hZ hps;have HPO:=hZ hpo;have HCC:=hZ (fun W (hE:Ext w W)=>hc.ext hE);have HFR:=hZ fr;have HPR:=hZ (And.intro hpr (And.intro hC hwt));have few:=fr.toFr.few;have zl:z.length<=1000000:=by omega
  have ol:o.length<=1000000:=by have:=fr.len;omega
  have scap:=hs.cap;have sle:=hs.le;obtain ⟨d,hd⟩:∃ d,ofD_ z o (cellV z C)=d:=⟨_,rfl⟩
  rw [hd];have HD:=hZ hd;obtain ⟨nC,hnC⟩:∃ m,C.length=m:=⟨_,rfl⟩
  have HNC:=hZ hnC;rw [hnC];clear hs ho hps hpo hc fr hpr hC hwt hd hnC;obtain ⟨nz,hnz⟩:∃ m,z.length=m:=⟨_,rfl⟩
  obtain ⟨no,hno⟩:∃ m,o.length=m:=⟨_,rfl⟩
  have HNZ:=hZ hnz;have HNO:=hZ hno;rw [hnz] at few sle zl ⊢;rw [hno] at ol ⊢;clear hnz hno;have mixed:Tryz.prog.follows .mixedOrders=true:=by kernel_rfl
  have hmk:=run_make_row' (P:=Tryz.prog) 22 3 (.int .i64 0) 8 Tryz.underlying22 (show (Tryz.prog.info? 3).map (fun i=>(i.zero,i.size,i.bytes))=some (some (.int .i64 0),1,8) from by kernel_rfl) rfl .i64 .i64 nz (by omega) (by omega);have HMK:=hZ hmk;clear hmk;go_enter Tryz.func92,Tryz.ntmps92
  go_upto_region 2 with (first
   | (at_builtin;refine wpList_copyR (p:=ps) (c:=cs) (l:=z) rfl _ rfl (by rw [HNZ.out];rfl) (HS.out _ (exx)) HPS.out (by rw [HNZ.out];exact zl) ?_;intro p1 c1 w1 R1 hE1;rw [HNZ.out];have E1:=hZ (show Ext w w1 from exx);have HR1:=hZ R1;have HE1:=hZ hE1;clear R1 hE1)
   | (at_builtin;refine wpList_copyR (p:=po) (c:=co) (l:=o) rfl _ rfl (by rw [HNO.out];rfl) (HO.out _ E1.out) HPO.out (by rw [HNO.out];exact ol) ?_;intro p2 c2 w2 R2 hE2;rw [HNO.out];have E2:=hZ (E1.out.trans hE2);have HR2:=hZ R2;have HE2:=hZ hE2;clear R2 hE2))
  have X12:=HE1.out.trans HE2.out;have OR0:Own5 (w.alloc (.cells #[.slice none 0 0,.slice none 0 0,.slice none 0 0,.slice none 0 0,.int .i64 0] 49)) w.heap.size (.slice none 0 0) (.slice none 0 0) (.slice none 0 0) (.slice none 0 0) (.int .i64 0):=⟨by go_simp,by go_simp,by go_simp,by go_simp,by go_simp,fun o=>by go_simp⟩
  have OR2:=OR0.ext X12;have zsz:=X12.le;have zs0:(w.alloc (.cells #[.slice none 0 0,.slice none 0 0,.slice none 0 0,.slice none 0 0,.int .i64 0] 49)).heap.size=w.heap.size+1:=by simp
  have zs1:=HE1.out.le;have zs2:=HE2.out.le;have NB:Hid (∀ b,b ∈ blk p1 \/ b ∈ blk p2->w.heap.size < b/\b < w2.heap.size):=hZ (fun b h=>by
   rcases h with h | h
   . obtain ⟨g,e⟩:=row_blk_ HR1.out h;have h1:=HR1.out.far e;have h2:=HR1.out.lt e;omega
   . obtain ⟨g,e⟩:=row_blk_ HR2.out h;have h1:=HR2.out.far e;have h2:=HR2.out.lt e;omega)
  have GD:Hid (w.heap.size < w2.heap.size):=hZ (by omega);refine cut_world (F:=fun W=>Hid (Ext w W)/\Hid (SliceAt W p1 c1 z/\SliceAt W p2 c2 o)/\Hid (Own5 W w2.heap.size (.slice p1 nz c1) (.slice p2 no c2) (.slice none 0 0) (.slice none 0 0) (.int .i64 0))/\Hid (Own5 W w.heap.size (.slice none 0 0) (.slice none 0 0) (.slice none 0 0) (.slice none 0 0) (.int .i64 0))) ⟨hZ (E2.out.alloc _),hZ ⟨(HR1.out.at_.ext HE2.out).ext (Ext.alloc (Ext.refl _) _),HR2.out.at_.ext (Ext.alloc (Ext.refl _) _)⟩,hZ ⟨by go_simp,by go_simp,by go_simp,by go_simp,by go_simp,fun o=>by go_simp⟩,hZ (OR2.ext (Ext.alloc (Ext.refl _) _))⟩ ?_;rintro w3 ⟨E3,SS3,OD3,OR3⟩;clear X12 OR0 OR2 zsz zs0 zs1 zs2 HE1 HE2 E1 E2 HR1 HR2;generalize w2.heap.size=gd at *;obtain ⟨gr,hgr⟩:∃ g,w.heap.size=g:=⟨_,rfl⟩
  have HGR:=hZ hgr;rw [hgr] at NB GD OR3 ⊢;clear hgr;refine wp_region_seq (S:=fun _=>True) (R:=Eq) (by kernel_rfl) (fun _=>rfl) trivial ?_;have E4:=hZ (E3.out.trans (Ext.drew (Ext.refl w3)));have SS4:=hZ (And.intro (SS3.out.1.ext (Ext.drew (Ext.refl w3))) (SS3.out.2.ext (Ext.drew (Ext.refl w3))));have OD4:=hZ (OD3.out.ext (Ext.drew (Ext.refl w3)));have OR4:=hZ (OR3.out.ext (Ext.drew (Ext.refl w3)));clear E3 SS3 OD3 OR3;generalize w3.drew=w4 at *;refine' wpAnyR_take (i:=1) (v:=?v1_1903) (fun _=>rfl) (fun _ _ _ h k=>h.trans k) rfl (by kernel_rfl) (by kernel_rfl) (by kernel_rfl) (fun _ _ _ h=>h) (Or.inl (Or.inl ⟨by rfl, ?hy1_1903⟩)) ?rest1_1903
  case hy1_1903=>(intro w _;go_simp;try with_reducible rfl)
  refine layy ?_;refine' wpAnyR_take (i:=2) (v:=?v2_1904) (fun _=>rfl) (fun _ _ _ h k=>h.trans k) rfl (by kernel_rfl) (by kernel_rfl) (by kernel_rfl) (fun _ _ _ h=>h) (Or.inl (Or.inl ⟨by rfl, ?hy2_1904⟩)) ?rest2_1904
  case hy2_1904=>(intro w _;go_simp;try with_reducible rfl)
  refine layy ?_;refine' wpAnyR_take (i:=3) (v:=?v3_1905) (fun _=>rfl) (fun _ _ _ h k=>h.trans k) rfl (by kernel_rfl) (by kernel_rfl) (by kernel_rfl) (fun _ _ _ h=>h) (Or.inl (Or.inl ⟨by rfl, ?hy3_1905⟩)) ?rest3_1905
  case hy3_1905=>(intro w _;go_simp;try with_reducible rfl)
  refine layy ?_;have XA:Ext w4 (w4.alloc (.cells (madeCells #[.int .i64 0] nz) 3)):=Ext.alloc (Ext.refl _) _;have OD5:=hZ (OD4.out.ext XA);refine wpAnyE_two 0 4 (v:=.agg #[.slice p1 nz c1,.slice p2 no c2,.slice none 0 0,.slice none 0 0,.int .i64 0]) (u:=.slice (some ⟨w4.heap.size,0,none⟩) nz nz) (w'':=w4.alloc (.cells (madeCells #[.int .i64 0] nz) 3)) rfl rfl (by kernel_rfl) (by kernel_rfl) (by kernel_rfl) (by rfl) (by rfl) (by rfl) (by rfl) ?ri ?ri2 ?rj ?rj2 (by rfl) (by rfl) trivial trivial ?_
  case ri=>(obtain ⟨a0,a1,a2,a3,a4,az⟩:=OD4.out;go_simp)
  case ri2=>(obtain ⟨a0,a1,a2,a3,a4,az⟩:=OD5.out;go_simp)
  case rj=>(have hmk:=HMK.out;go_simp)
  case rj2=>(have hmk:=HMK.out;go_simp)
  refine layy ?_;have W5:=hZ (made_at w4 nz w4.heap.size rfl);have E5:=hZ (E4.out.trans XA);have OR5:=hZ (OR4.out.ext XA);have SS5:=hZ (And.intro (SS4.out.1.ext XA) (SS4.out.2.ext XA));have G5:Hid (gd < (w4.alloc (.cells (madeCells #[.int .i64 0] nz) 3)).heap.size/\gr < (w4.alloc (.cells (madeCells #[.int .i64 0] nz) 3)).heap.size):=hZ ⟨cell_lt OD5.out.1,cell_lt OR5.out.1⟩;clear E4 SS4 OD4 OR4 XA;generalize w4.alloc (.cells (madeCells #[.int .i64 0] nz) 3)=w5 at *;generalize w4.heap.size=g5 at *;have I:PtIn w5 z o C p1 p2 pc c1 c2 cc:=⟨HFR.out,SS5.out.1,SS5.out.2,HCC.out w5 E5.out,HPR.out.1,HPR.out.2.1⟩
  have hz1:∀ s ∈ z,1<=s:=fun s hs=>(HFR.out.pos s hs).1
  have hpl:SliceAt w5 (some ⟨g5,0,none⟩) nz (List.replicate z.length 0):=by
   rw [HNZ.out];exact W5.out.slice (by simp) (by omega)
  have CALL:=pt_any (rt:=0) (W0:=50000) I (Nat.le_refl _) o.length 0 (by omega) (List.replicate z.length 0) w5 [] [] none none 0 0 [] (some ⟨g5,0,none⟩) nz (PtD.start w5) hpl (inPl_rep hz1) (fun b o' _=>by simp [blk]) (by have:=HPR.out.2.2;simp only [List.drop_zero,List.length_nil];omega);rw [List.drop_zero,HNZ.out,HNO.out,HNC.out,List.length_replicate] at CALL;simp only [List.length_nil] at CALL;obtain ⟨x,hx⟩:∃ x,(Nd.ofP z (cellV z C) o (List.replicate nz 0) ⟨[],[],[]⟩).1=x:=⟨_,rfl⟩
  obtain ⟨s,hs⟩:∃ s,(Nd.ofP z (cellV z C) o (List.replicate nz 0) ⟨[],[],[]⟩).2=s:=⟨_,rfl⟩
  rw [hx,hs] at CALL
  have HXS:Hid (d.root=x/\d.ends=s.ends/\d.nodes=s.nodes):=hZ (by
   rw [<- HD.out,<- hx,<- hs,<- HNZ.out];exact ⟨rfl,rfl,rfl⟩)
  have HCALL:=hZ CALL;clear CALL hx hs I hz1 hpl;refine wpAnyE_call 5 (f:=141) (args:=#[.agg #[.slice p1 nz c1,.slice p2 no c2,.slice none 0 0,.slice none 0 0,.int .i64 0],.slice pc nC cc,.int .i64 0,.slice (some ⟨g5,0,none⟩) nz nz]) rfl (by kernel_rfl) (by rfl) ?run5 ?call5
  case run5=>go_simp
  refine HCALL.out.mono ?_;rintro e w6 ⟨pe,ce,pn,cn,K,rfl,P5,-,-,-⟩;refine ⟨_,rfl,trivial, ?_⟩;refine layy ?_;have PD:=hZ P5;have OD6:=hZ (OD5.out.ext P5.ext);have OR6:=hZ (OR5.out.ext P5.ext);clear P5 HCALL OD5 OR5;refine' wpAnyR_take (i:=6) (v:=?v6_1906) (fun _=>rfl) (fun _ _ _ h k=>h.trans k) rfl (by kernel_rfl) (by kernel_rfl) (by kernel_rfl) (fun _ _ _ h=>h) (Or.inl (Or.inl ⟨by rfl, ?hy6_1906⟩)) ?rest6_1906
  case hy6_1906=>(intro w _;go_simp;try with_reducible rfl)
  refine layy ?_;refine' wpAnyR_take (i:=7) (v:=?v7_1907) (fun _=>rfl) (fun _ _ _ h k=>h.trans k) rfl (by kernel_rfl) (by kernel_rfl) (by kernel_rfl) (fun _ _ _ h=>h) (Or.inl (Or.inl ⟨by rfl, ?hy7_1907⟩)) ?rest7_1907
  case hy7_1907=>(intro w _;go_simp;try with_reducible rfl)
  refine layy ?_;refine' wpAnyR_take (i:=8) (v:=?v8_1908) (fun _=>rfl) (fun _ _ _ h k=>h.trans k) rfl (by kernel_rfl) (by kernel_rfl) (by kernel_rfl) (fun _ _ _ h=>h) (Or.inl (Or.inl ⟨by rfl, ?hy8_1908⟩)) ?rest8_1908
  case hy8_1908=>(intro w _;go_simp;try with_reducible rfl)
  refine layy ?_;have K7:But [gd] w6 (((((w6.setCell ⟨gd,0,none⟩ (.slice p1 nz c1)).setCell ⟨gd,1,none⟩ (.slice p2 no c2)).setCell ⟨gd,2,none⟩ (.slice pe s.ends.length ce)).setCell ⟨gd,3,none⟩ (.slice pn s.nodes.length cn)).setCell ⟨gd,4,none⟩ (.int .i64 0)):=(((((But.refl [gd] _).setCell (.inl (by simp)) _).setCell (.inl (by simp)) _).setCell (.inl (by simp)) _).setCell (.inl (by simp)) _).setCell (.inl (by simp)) _;have OD7:=hZ (Own5.set (d0:=.slice p1 nz c1) (d1:=.slice p2 no c2) (d2:=.slice pe s.ends.length ce) (d3:=.slice pn s.nodes.length cn) (d4:=.int .i64 0) OD6.out);have OR7:=hZ (OR6.out.but K7 (by have:=GD.out;simp;omega));have HK7:=hZ K7;refine wpAnyE_put 9 (w':=(((((w6.setCell ⟨gd,0,none⟩ (.slice p1 nz c1)).setCell ⟨gd,1,none⟩ (.slice p2 no c2)).setCell ⟨gd,2,none⟩ (.slice pe s.ends.length ce)).setCell ⟨gd,3,none⟩ (.slice pn s.nodes.length cn)).setCell ⟨gd,4,none⟩ (.int .i64 0))) rfl (by kernel_rfl) (by rfl) ?run9 trivial ?next9
  case run9=>(obtain ⟨a0,a1,a2,a3,a4,az⟩:=OD6.out;go_simp)
  refine layy ?_;clear K7 OD6 OR6;generalize (((((w6.setCell ⟨gd,0,none⟩ (.slice p1 nz c1)).setCell ⟨gd,1,none⟩ (.slice p2 no c2)).setCell ⟨gd,2,none⟩ (.slice pe s.ends.length ce)).setCell ⟨gd,3,none⟩ (.slice pn s.nodes.length cn)).setCell ⟨gd,4,none⟩ (.int .i64 0))=w7 at *;refine' wpAnyR_take (i:=10) (v:=?v10_1909) (fun _=>rfl) (fun _ _ _ h k=>h.trans k) rfl (by kernel_rfl) (by kernel_rfl) (by kernel_rfl) (fun _ _ _ h=>h) (Or.inl (Or.inl ⟨by rfl, ?hy10_1909⟩)) ?rest10_1909
  case hy10_1909=>(intro w _;go_simp;try with_reducible rfl)
  refine layy ?_;have K8:But [gd] w7 (w7.setCell ⟨gd,4,none⟩ (.int .i64 x)):=(But.refl _ _).setCell (.inl (by simp)) _;have OD8:=hZ (Own5.set4 (d4:=.int .i64 x) OD7.out);have OR8:=hZ (OR7.out.but K8 (by have:=GD.out;simp;omega));have HK8:=hZ K8;refine wpAnyE_put 11 (w':=w7.setCell ⟨gd,4,none⟩ (.int .i64 x)) rfl (by kernel_rfl) (by rfl) ?run11 trivial ?next11
  case run11=>(obtain ⟨a0,a1,a2,a3,a4,az⟩:=OD7.out;go_simp)
  refine layy ?_;clear K8 OD7 OR7;generalize w7.setCell ⟨gd,4,none⟩ (.int .i64 x)=w8 at *;refine wpAnyR_done (by kernel_rfl) ?_ _;intro w8' e8 _;subst e8;have K9:But [gr] w8 (((((w8.setCell ⟨gr,0,none⟩ (.slice p1 nz c1)).setCell ⟨gr,1,none⟩ (.slice p2 no c2)).setCell ⟨gr,2,none⟩ (.slice pe s.ends.length ce)).setCell ⟨gr,3,none⟩ (.slice pn s.nodes.length cn)).setCell ⟨gr,4,none⟩ (.int .i64 x)):=(((((But.refl [gr] _).setCell (.inl (by simp)) _).setCell (.inl (by simp)) _).setCell (.inl (by simp)) _).setCell (.inl (by simp)) _).setCell (.inl (by simp)) _;have O9:=hZ (Own5.set (d0:=.slice p1 nz c1) (d1:=.slice p2 no c2) (d2:=.slice pe s.ends.length ce) (d3:=.slice pn s.nodes.length cn) (d4:=.int .i64 x) OR8.out);have HK9:=hZ K9;clear K9;obtain ⟨a0,a1,a2,a3,a4,az⟩:=OD8.out;obtain ⟨r0,r1,r2,r3,r4,rz⟩:=OR8.out
  go_wp2_with fail
  clear a0 a1 a2 a3 a4 az r0 r1 r2 r3 r4 rz;obtain ⟨u0,u1,u2,u3,u4,-⟩:=O9.out;refine bodyPost_ret (v:=.agg #[.slice p1 nz c1,.slice p2 no c2,.slice pe s.ends.length ce,.slice pn s.nodes.length cn,.int .i64 x]) (by simp [results,Tryz.results92,go_sem, *]) rfl ?_;have DG:=PD.out.dg (SS5.out.1.ext PD.out.ext) (SS5.out.2.ext PD.out.ext);have hg5:=G5.out;have far:∀ g,g=gd \/ g=gr->g ∉ (⟨p1,c1,p2,c2,pe,ce,pn,cn,K.map fun k=>(some ⟨k.1,0,none⟩,k.2)⟩:DgL).blocks:=fun g hg hm=>by
   have hgd:=GD.out;simp only [DgL.blocks,List.mem_append,List.mem_flatMap] at hm
   rcases hm with (((hm | hm) | hm) | hm) | ⟨k,hk,hm⟩
   . have:=NB.out g (.inl hm);omega
   . have:=NB.out g (.inr hm);omega
   . have:=(PD.out.lo g (.inl hm)).1;omega
   . have:=(PD.out.lo g (.inr (.inl hm))).1;omega
   obtain ⟨k0,hk0,rfl⟩:=List.mem_map.1 hk;have e:g=k0.1:=by simpa [blk] using hm
   have:=(PD.out.lo g (.inr (.inr (List.mem_map.2 ⟨k0,hk0,e.symm⟩)))).1;omega
  rw [HXS.out.1,HXS.out.2.1,HXS.out.2.2];refine ⟨_,rfl,((DG.but HK7.out (fun b hb=>far b (.inl (List.mem_singleton.1 hb)))).but HK8.out (fun b hb=>far b (.inl (List.mem_singleton.1 hb)))).but HK9.out (fun b hb=>far b (.inr (List.mem_singleton.1 hb))), ?_⟩;have hgr:=HGR.out;have hgd:=GD.out;refine ⟨HK9.out.toExt (HK8.out.toExt (HK7.out.toExt (E5.out.trans PD.out.ext) (fun b hb=>by rw [List.mem_singleton.1 hb];omega)) (fun b hb=>by rw [List.mem_singleton.1 hb];omega)) (fun b hb=>by rw [List.mem_singleton.1 hb];omega),fun b hm=>?_⟩;have hwl:=E5.out.le;simp only [DgL.blocks,List.mem_append,List.mem_flatMap] at hm
  rcases hm with (((hm | hm) | hm) | hm) | ⟨k,hk,hm⟩
  . have:=NB.out b (.inl hm);omega
  . have:=NB.out b (.inr hm);omega
  . have:=(PD.out.lo b (.inl hm)).1;omega
  . have:=(PD.out.lo b (.inr (.inl hm))).1;omega
  obtain ⟨k0,hk0,rfl⟩:=List.mem_map.1 hk;have e:b=k0.1:=by simpa [blk] using hm
  have:=(PD.out.lo b (.inr (.inr (List.mem_map.2 ⟨k0,hk0,e.symm⟩)))).1;omega
end Go.Proofs.YtdokmmhjmclmnaaGreat
