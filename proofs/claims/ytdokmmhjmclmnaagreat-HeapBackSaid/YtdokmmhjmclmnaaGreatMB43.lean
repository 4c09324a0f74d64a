/-
  Part 43 of a proof: LHO LHD.
-/
import Derived.ChangeMaps5
import Derived.Deep.Slices
import Derived.Lib.SmallJoins
import Derived.OpenShut
import Derived.ProofKit
import Derived.Test.YtdokmmhjmclmnaaGreatRows
import Derived.Test.YtdokmmhjmclmnaaGreatMB21
import Derived.Test.YtdokmmhjmclmnaaGreatMB41
set_option linter.unusedSimpArgs false
set_option linter.unusedVariables false
set_option linter.unusedSectionVars false
set_option linter.unnecessarySimpa false
namespace Go.Proofs.YtdokmmhjmclmnaaGreat
open Go.ChangeShapes Go.WideShapes Go.ChangeAt Go.RowKit Go.Joins
theorem own:ownKnob Tryz.prog.godebug=none:=by kernel_rfl
theorem kids:Kids Tryz.prog (· < Tryz.prog.types.size):=kids_rows (by kernel_rfl) (by kernel_rfl)
theorem full:∀ t e,t < Tryz.prog.types.size → Tryz.prog.underlying t=some (.slice e) → 0 < Tryz.prog.cellsOf e:=slices_full_of _ (by kernel_rfl)
theorem same_at {W W':World} (he:Ext W W') {p:MemPlace} (hp:p.block < W.heap.size):W.sameAt W' p:=by
 cases p with
 | cell b off=>exact he.cell hp off
 | map b=>exact he.block b hp
theorem args_again {H:Type} {enc:TypeId × Value → H} {W W':World} (he:Ext W W') {sp:Nat → Bool}:∀ {ts:List TypeId} {vs:List Value} {ds:List (DataW H)} {ps:List MemPlace},(∀ t ∈ ts,t < Tryz.prog.types.size) → DataW.TrodAll enc Tryz.prog W 0 (fun _=>true) true ts vs ds ps →
    (∀ p ∈ ps,p.block < W.heap.size) → (∀ p ∈ ps,sp p.block=true) → DataW.TrodAll enc Tryz.prog W' 0 sp true ts vs ds ps:=by
  intro ts vs ds ps hT h hlt hs;refine DataW.TrodAll.respare kids full hT ?_ hs;clear hs hT
  induction ts generalizing vs ds ps with
  | nil=>match vs,ds,h with
   | [],[],h=>exact h
  | cons t ts ih=>match vs,ds,h with
   | v :: vs,d :: ds,⟨p,q,⟨n,h1⟩,h2,e⟩=>
    subst e;exact ⟨p,q,⟨n,DataW.trod_carry n _ _ _ h1 (fun x hx=>same_at he (hlt x (List.mem_append_left _ hx)))⟩,ih h2 (fun x hx=>hlt x (List.mem_append_right _ hx)),rfl⟩
theorem post_ext {H:Type} {enc:TypeId × Value → H} {P:Program} {f:Func} {s:ChangeSpec} {W W':World} {args:Array Value} {v:Value} {ds gs:List (DataW H)} {before pa pv:List MemPlace}
    (hW:DataW.Whole enc P f.params.toList s.vars false W args.toList ds gs before)
    (hres:∀ (b:Nat) (sp:Nat → Bool) (hd:Bool),DataW.TrodAll enc P W' b sp hd f.resultTypes.toList (v.resultList f.resultTypes.size) (s.fn H (ds ++ gs)).results [])
    (hargs:∀ sp:Nat → Bool,(∀ p ∈ before,sp p.block=true) → DataW.TrodAll enc P W' 0 sp true f.params.toList args.toList (s.fn H (ds ++ gs)).args pa)
    (hvars:∀ sp:Nat → Bool,(∀ p ∈ before,sp p.block=true) → DataW.TrodVars enc P W' sp s.vars (s.fn H (ds ++ gs)).vars pv)
    (hps:before=pa ++ pv) (hb:Ext W W'):s.post enc P f false true false false W args v W':=by
  have hold:∀ p ∈ before,(fun b=>decide (b < W.heap.size)) p.block=true:=fun p hp=>by simpa using hW.lt p hp
  refine ⟨ds,gs,before,[],pa,pv,hW,hres _ _ _,hargs _ hold,hvars _ hold,World.keptBut_mono (fun p hp=>⟨hp, ?_⟩) (Below.frame hb (· ∈ before)),fun h=>by cases h⟩;rw [hps,List.mem_append] at hp;exact Or.inr hp
theorem cellsOf_I:Tryz.prog.cellsOf 3=1:=by kernel_rfl
theorem cellsOf_B:Tryz.prog.cellsOf 5=1:=by kernel_rfl
theorem cellsOf_L:Tryz.prog.cellsOf 22=1:=by kernel_rfl
theorem cellsOf_V:Tryz.prog.cellsOf 43=2:=by kernel_rfl
section
variable {H:Type} {enc:TypeId × Value → H} {w:World} {base:Nat} {held:Bool}
theorem open_ints {fuel:Nat} {v:Value} {y:DataW H × List MemPlace} (h:DataW.trod enc Tryz.prog w base (fun _=>true) held fuel 22 [v]=some y):∃ (q:Option Addr) (c:Nat) (l:List Int),v = .slice q l.length c ∧ SliceAt w q c l ∧ (q=none → c=0):=by
 rcases Go.Deep.open_slice1 Tryz.underlying22 cellsOf_I h with ⟨hcs,-⟩ | ⟨a,len,cap,m,n,V,D,Pl,hcs,hb,hl,hm,hmm,hx,hi⟩
 · exact ⟨none,0,[],(List.cons.inj hcs).1,⟨by simp,by omega,by simp,fun h=>by simp at h⟩,fun _=>rfl⟩
 · have hcs:=(List.cons.inj hcs).1;simp only [if_true] at hmm;subst hmm;have num:∀ i,i < m → ∃ z:Int,V i = .int .i64 z ∧ -9223372036854775808 ≤ z ∧ z ≤ 9223372036854775807:=fun i h=>by
    obtain ⟨-,h2⟩:=hi i h;obtain ⟨f,e0,_,wf0⟩:=DataW.trod_int Tryz.underlying3 h2;simp at e0;exact ⟨f,e0,bounds_i64 wf0⟩
   obtain ⟨z,hz⟩:∃ z:Nat → Int,∀ i,i < m → V i = .int .i64 (z i) ∧ -9223372036854775808 ≤ z i ∧ z i ≤ 9223372036854775807:=
    ⟨fun i=>if h:i < m then (num i h).choose else 0,fun i h=>by simp only [dif_pos h];exact (num i h).choose_spec⟩
   refine ⟨some a,m,(List.range len).map z,by simpa using hcs,⟨by simpa using hl,by unfold maxLen at hm;omega,fun x hx=>?_,fun h0=>?_⟩,fun h=>by cases h⟩
   · obtain ⟨i,hi',rfl⟩:=List.mem_map.1 hx;have:=List.mem_range.1 hi';exact (hz i (by omega)).2
   · simp only [List.length_map,List.length_range] at h0;obtain ⟨b,off,spot⟩:=a;have hspot:spot=none:=by simpa [Addr.add] using World.cell?_spot (hi 0 (by omega)).1
     subst hspot;have key:∀ j,j < len → w.cell? ⟨b,off+j,none⟩=some (.int .i64 (z j)):=fun j hj=>by
      have:=(hi j (by omega)).1;rw [(hz j (by omega)).1,Addr.add_lit] at this;exact this
     refine ⟨b,off,rfl,cell_lt (key 0 h0),fun j x hx=>?_⟩;have hj:=rd_lt hx;simp only [List.length_map,List.length_range] at hj;have:z j=x:=by simpa [Hp.rd,hj] using hx
     rw [← this];exact key j hj
end
theorem cellsOf_Br:Tryz.prog.cellsOf 41=2:=by kernel_rfl
theorem cellsOf_LV:Tryz.prog.cellsOf 46=1:=by kernel_rfl
theorem cellsOf_LB:Tryz.prog.cellsOf 47=1:=by kernel_rfl
section
variable {H:Type} {enc:TypeId × Value → H} {w:World} {base:Nat} {held:Bool}
theorem open_cells {fuel:Nat} {v:Value} {y:DataW H × List MemPlace} (h:DataW.trod enc Tryz.prog w base (fun _=>true) held fuel 46 [v]=some y):∃ (q:Option Addr) (c:Nat) (E:List (Int × Int)),v = .slice q E.length c ∧ RdN w 2 q c (E.map endC) ∧ (q=none → c=0) ∧ ∀ v ∈ E,(0 ≤ v.1 ∧ v.1 ≤ 255) ∧ -9223372036854775808 ≤ v.2 ∧ v.2 ≤ 9223372036854775807:=by
 rcases Go.Deep.open_slice Tryz.underlying46 h with ⟨hcs,-⟩ | ⟨a,len,cap,m,n,D,Pl,hcs,hb,hl,hm,hmm,hx,hi⟩
 · exact ⟨none,0,[],(List.cons.inj hcs).1,⟨by simp,by omega,fun h=>by simp at h⟩,fun _=>rfl,by simp⟩
 · have hcs:=(List.cons.inj hcs).1;simp only [if_true] at hmm;subst hmm;rw [cellsOf_V] at hi;have num:∀ i,i < m → ∃ (x:Int × Int),((0 ≤ x.1 ∧ x.1 ≤ 255) ∧ -9223372036854775808 ≤ x.2 ∧ x.2 ≤ 9223372036854775807) ∧ w.cell? (a.add (i * 2))=some (.int .u8 x.1) ∧ w.cell? (a.add (i * 2+1))=some (.int .i64 x.2):=fun i h=>by
    obtain ⟨cs,hc,ht⟩:=hi i h;obtain ⟨_,hlen,hcell⟩:=World.cells?_some hc
    match cs,hlen with
    | [c0,c1],_=>
     obtain ⟨z0,z1,n',-,_,h0,h1⟩:=trod_struct2 Tryz.underlying43 ht;obtain ⟨k0,e0,_,w0⟩:=DataW.trod_int Tryz.underlying5 h0;obtain ⟨k1,e1,_,w1⟩:=DataW.trod_int Tryz.underlying3 h1;rw [cellsOf_B] at e0;rw [cellsOf_I] at e1;simp at e0 e1;subst e0 e1;have cl:∀ (i2:Nat) (u:Value),[Value.int .u8 k0,.int .i64 k1][i2]? = some u → w.cell? ((a.add (i * 2)).add i2)=some u:=fun i2 u hu=>by
      rw [hcell i2 (by have:=(List.getElem?_eq_some_iff.1 hu).1;simpa using this)]
      exact hu
     refine ⟨(k0,k1),⟨(by have:=bounds_u8 w0;simp only;omega),bounds_i64 w1⟩, ?_, ?_⟩
     · have:=cl 0 _ rfl
       rwa [Go.Deep.add_add] at this
     · have:=cl 1 _ rfl
       rwa [Go.Deep.add_add] at this
   obtain ⟨z,hz⟩:∃ z:Nat → Int × Int,∀ i,i < m → ((0 ≤ (z i).1 ∧ (z i).1 ≤ 255) ∧ -9223372036854775808 ≤ (z i).2 ∧ (z i).2 ≤ 9223372036854775807) ∧ w.cell? (a.add (i * 2))=some (.int .u8 (z i).1) ∧ w.cell? (a.add (i * 2+1))=some (.int .i64 (z i).2):=
    ⟨fun i=>if h:i < m then (num i h).choose else (0,0),fun i h=>by simp only [dif_pos h];exact (num i h).choose_spec⟩
   refine ⟨some a,m,(List.range len).map z,by simpa using hcs,⟨by simpa using hl,by unfold maxLen at hm;omega,fun h0=>?_⟩,(fun h=>by cases h),fun v hv=>?_⟩
   · simp only [List.length_map,List.length_range] at h0;obtain ⟨b,off,spot⟩:=a;have hspot:spot=none:=by
      obtain ⟨_,h1,_⟩:=hz 0 (by omega)
      simpa [Addr.add] using World.cell?_spot h1
     subst hspot;refine ⟨b,off,rfl, ?_,fun j x i v hx hv=>?_⟩
     · obtain ⟨_,h1,_⟩:=hz 0 (by omega);rw [Addr.add_lit] at h1;exact cell_lt h1
     · have hj:j < len:=by simpa using (List.getElem?_eq_some_iff.1 hx).1
       have ex:x=endC (z j):=by simpa [hj,eq_comm] using hx
       subst ex;obtain ⟨_,h1,h2⟩:=hz j (by omega);rw [Addr.add_lit] at h1 h2
       match i,hv with
       | 0,hv=>cases hv;rw [Nat.add_zero];exact h1
       | 1,hv=>cases hv;exact h2
       | i+2,hv=>simp [endC] at hv
   · obtain ⟨i,hi',rfl⟩:=List.mem_map.1 hv;exact (hz i (by have:=List.mem_range.1 hi';omega)).1
theorem open_nodes {fuel:Nat} {v:Value} {y:DataW H × List MemPlace} (h:DataW.trod enc Tryz.prog w base (fun _=>true) held fuel 47 [v]=some y):∃ (q:Option Addr) (c:Nat) (N:List (Int × List Int)) (K:List (Option Addr × Nat)),v = .slice q N.length c ∧ NdRd w q c K N ∧ (∀ k ∈ K,k.1=none → k.2=0) ∧ (∀ q ∈ N,-9223372036854775808 ≤ q.1 ∧ q.1 ≤ 9223372036854775807) ∧ ∀ q ∈ N,∀ k ∈ q.2,-9223372036854775808 ≤ k ∧ k ≤ 9223372036854775807:=by
 rcases Go.Deep.open_slice Tryz.underlying47 h with ⟨hcs,-⟩ | ⟨a,len,cap,m,n,D,Pl,hcs,hb,hl,hm,hmm,hx,hi⟩
 · exact ⟨none,0,[],[],(List.cons.inj hcs).1,⟨⟨by simp,by omega,fun h=>by simp at h⟩,rfl,fun j q k hq=>by simp at hq⟩,by simp,by simp,by simp⟩
 · have hcs:=(List.cons.inj hcs).1;simp only [if_true] at hmm;subst hmm;rw [cellsOf_Br] at hi;have num:∀ i,i < m → ∃ (x:(Int × List Int) × (Option Addr × Nat)),(-9223372036854775808 ≤ x.1.1 ∧ x.1.1 ≤ 9223372036854775807) ∧ w.cell? (a.add (i * 2))=some (.int .i64 x.1.1) ∧ w.cell? (a.add (i * 2+1))=some (.slice x.2.1 x.1.2.length x.2.2) ∧ SliceAt w x.2.1 x.2.2 x.1.2 ∧ (x.2.1=none → x.2.2=0):=fun i h=>by
    obtain ⟨cs,hc,ht⟩:=hi i h;obtain ⟨_,hlen,hcell⟩:=World.cells?_some hc
    match cs,hlen with
    | [c0,c1],_=>
     obtain ⟨z0,z1,n',-,_,h0,h1⟩:=trod_struct2 Tryz.underlying41 ht;simp only [cellsOf_I,cellsOf_L] at h0 h1;simp only [List.drop_succ_cons,List.drop_zero,List.take_succ_cons,List.take_zero] at h0 h1;obtain ⟨k0,e0,_,w0⟩:=DataW.trod_int Tryz.underlying3 h0;obtain ⟨q,c,l,e1,hs,hn⟩:=open_ints h1;simp at e0;subst e0 e1;have cl:∀ (i2:Nat) (u:Value),[Value.int .i64 k0,.slice q l.length c][i2]? = some u → w.cell? ((a.add (i * 2)).add i2)=some u:=fun i2 u hu=>by
      rw [hcell i2 (by have:=(List.getElem?_eq_some_iff.1 hu).1;simpa using this)]
      exact hu
     refine ⟨((k0,l),(q,c)),bounds_i64 w0, ?_, ?_,hs,hn⟩
     · have:=cl 0 _ rfl
       rwa [Go.Deep.add_add] at this
     · have:=cl 1 _ rfl
       rwa [Go.Deep.add_add] at this
   obtain ⟨z,hz⟩:∃ z:Nat → (Int × List Int) × (Option Addr × Nat),∀ i,i < m → (-9223372036854775808 ≤ (z i).1.1 ∧ (z i).1.1 ≤ 9223372036854775807) ∧ w.cell? (a.add (i * 2))=some (.int .i64 (z i).1.1) ∧ w.cell? (a.add (i * 2+1))=some (.slice (z i).2.1 (z i).1.2.length (z i).2.2) ∧ SliceAt w (z i).2.1 (z i).2.2 (z i).1.2 ∧ ((z i).2.1=none → (z i).2.2=0):=
    ⟨fun i=>if h:i < m then (num i h).choose else ((0,[]),(none,0)),fun i h=>by simp only [dif_pos h];exact (num i h).choose_spec⟩
   refine ⟨some a,m,(List.range len).map fun i=>(z i).1,(List.range len).map fun i=>(z i).2,by simpa using hcs,⟨⟨by simpa using hl,by unfold maxLen at hm;omega,fun h0=>?_⟩,by simp,fun j q k hq hk=>?_⟩,fun k hk=>?_,fun q hq=>?_,fun q hq k hk=>?_⟩
   · simp only [List.length_zipWith,List.length_map,List.length_range,Nat.min_self] at h0;obtain ⟨b,off,spot⟩:=a;have hspot:spot=none:=by
      obtain ⟨_,h1,_⟩:=hz 0 (by omega)
      simpa [Addr.add] using World.cell?_spot h1
     subst hspot;refine ⟨b,off,rfl, ?_,fun j x i v hx hv=>?_⟩
     · obtain ⟨_,h1,_⟩:=hz 0 (by omega);rw [Addr.add_lit] at h1;exact cell_lt h1
     · have hj:j < len:=by simpa using (List.getElem?_eq_some_iff.1 hx).1
       have ex:x=nodeC (z j).1 (z j).2:=by
        rw [List.getElem?_zipWith] at hx
        simpa [hj,eq_comm] using hx
       subst ex;obtain ⟨_,h1,h2,_⟩:=hz j (by omega);rw [Addr.add_lit] at h1 h2
       match i,hv with
       | 0,hv=>cases hv;rw [Nat.add_zero];exact h1
       | 1,hv=>cases hv;exact h2
       | i+2,hv=>simp [nodeC] at hv
   · have hj:j < len:=by simpa using (List.getElem?_eq_some_iff.1 hq).1
     have e1:q=(z j).1:=by simpa [hj,eq_comm] using hq
     have e2:k=(z j).2:=by simpa [hj,eq_comm] using hk
     subst e1 e2;exact (hz j (by omega)).2.2.2.1
   · obtain ⟨i,hi',rfl⟩:=List.mem_map.1 hk;exact (hz i (by have:=List.mem_range.1 hi';omega)).2.2.2.2
   · obtain ⟨i,hi',rfl⟩:=List.mem_map.1 hq;exact (hz i (by have:=List.mem_range.1 hi';omega)).1
   · obtain ⟨i,hi',rfl⟩:=List.mem_map.1 hq;exact (hz i (by have:=List.mem_range.1 hi';omega)).2.2.2.1.wf k hk
set_option maxRecDepth 100000 in
theorem open_D {r:Reach} {b0:Nat} {v:Value} {dw:DataW H} {p:List MemPlace} (hv:Value.okWide Tryz.prog w r b0 49 v) (h:DataW.Trod enc Tryz.prog w base (fun _=>true) held 49 v dw p) :
    ∃ (L:DgL) (d:Nd.Dia),v=dgV L d.sizes.length d.order.length d.ends.length d.nodes.length d.root ∧ DgPar w L d:=by
  obtain ⟨cs,rfl,hsz⟩:=okWide_struct Tryz.underlying49 hv;have hC:Tryz.prog.cellsOf 49=5:=by kernel_rfl
  obtain ⟨l⟩:=cs
  match l,(hsz.trans hC:l.length=5) with
  | [c0,c1,c2,c3,c4],_=>
   obtain ⟨fuel,hf⟩:=h;obtain ⟨xs,k,-,-,-,hxl,hf⟩:=DataW.trod_struct Tryz.underlying49 hf;have f0:DataW.trod enc Tryz.prog w base (fun _=>true) held k 22 (([c0,c1,c2,c3,c4].drop 0).take (Tryz.prog.cellsOf 22))=xs[0]? := hf 0 _ rfl;rw [cellsOf_L] at f0;have f1:DataW.trod enc Tryz.prog w base (fun _=>true) held k 22 (([c0,c1,c2,c3,c4].drop 1).take (Tryz.prog.cellsOf 22))=xs[1]? := hf 1 _ rfl;rw [cellsOf_L] at f1;have f2:DataW.trod enc Tryz.prog w base (fun _=>true) held k 46 (([c0,c1,c2,c3,c4].drop 2).take (Tryz.prog.cellsOf 46))=xs[2]? := hf 2 _ rfl;rw [cellsOf_LV] at f2;have f3:DataW.trod enc Tryz.prog w base (fun _=>true) held k 47 (([c0,c1,c2,c3,c4].drop 3).take (Tryz.prog.cellsOf 47))=xs[3]? := hf 3 _ rfl;rw [cellsOf_LB] at f3;have f4:DataW.trod enc Tryz.prog w base (fun _=>true) held k 3 (([c0,c1,c2,c3,c4].drop 4).take (Tryz.prog.cellsOf 3))=xs[4]? := hf 4 _ rfl;rw [cellsOf_I] at f4;simp only [List.drop_succ_cons,List.drop_zero,List.take_succ_cons,List.take_zero] at f0 f1 f2 f3 f4;clear hf;have hxl5:xs.length=5:=hxl;have fin:∀ j,j < 5 → ∃ y,xs[j]? = some y:=fun j hj=>⟨_,List.getElem?_eq_getElem (by omega)⟩
   obtain ⟨y0,g0⟩:=fin 0 (by omega);obtain ⟨y1,g1⟩:=fin 1 (by omega);obtain ⟨y2,g2⟩:=fin 2 (by omega);obtain ⟨y3,g3⟩:=fin 3 (by omega);obtain ⟨y4,g4⟩:=fin 4 (by omega);rw [g0] at f0;rw [g1] at f1;rw [g2] at f2;rw [g3] at f3;rw [g4] at f4;obtain ⟨ps,cs,z,rfl,s0,n0⟩:=open_ints f0;obtain ⟨po,co,o,rfl,s1,n1⟩:=open_ints f1;obtain ⟨pe,ce,E,rfl,s2,n2,b2⟩:=open_cells f2;obtain ⟨pn,cn,N,K,rfl,s3,n3,b3,b4⟩:=open_nodes f3;obtain ⟨rt,e4,_,wf⟩:=DataW.trod_int Tryz.underlying3 f4;simp at e4;subst e4;exact ⟨⟨ps,cs,po,co,pe,ce,pn,cn,K⟩,⟨z,o,E,N,rt⟩,rfl,⟨⟨s0,s1,s2,s3.n,s3.kl,s3.ks⟩,⟨n0,n1,n2,n3⟩,b2,b3,b4,bounds_i64 wf⟩⟩
end
end Go.Proofs.YtdokmmhjmclmnaaGreat
