/-
  Part 34 of a proof: LHO.
-/
import Derived.ChangeMaps5
import Derived.Deep.Slices
import Derived.Lib.SmallJoins
import Derived.OpenShut
import Derived.ProofKit
import Derived.Test.YtdokmmhjmclmnaaGreatRows
import Derived.Test.YtdokmmhjmclmnaaGreatMV17
set_option linter.unusedSimpArgs false
set_option linter.unusedVariables false
set_option linter.unusedSectionVars false
set_option linter.unnecessarySimpa false
namespace Go.Proofs.YtdokmmhjmclmnaaGreat
variable {W' w w' w0 wb:World} {B a b base c cap ce cn f g gb i j k lb m n oc s sc:Nat} {choice t x:Int} {G W fs l o xs z:List Int} {L:List Hp.Tl} {r:Rd} {S S':Hp.Hs} {A N T:List Nat} {M:List (Nat × Int)} {op p pe pn q sp:Option Addr} {d:Hd} {acts:List Hp.Act'}
open Go.ChangeShapes Go.WideShapes Go.ChangeAt Go.RowKit Go.Joins
theorem own:ownKnob Tryz.prog.godebug=none:=by kernel_rfl
theorem kids:Kids Tryz.prog (· < Tryz.prog.types.size):=kids_rows (by kernel_rfl) (by kernel_rfl)
theorem full:∀ t e,t < Tryz.prog.types.size->Tryz.prog.underlying t=some (.slice e)->0 < Tryz.prog.cellsOf e:=slices_full_of _ (by kernel_rfl)
theorem same_at {W:World} (he:Ext W W') {p:MemPlace} (hp:p.block < W.heap.size):W.sameAt W' p:=by
 cases p with
 | cell b off=>exact he.cell hp off
 | map b=>exact he.block b hp
theorem args_again {H:Type} {enc:TypeId × Value->H} {W:World} (he:Ext W W') {sp:Nat->Bool}:∀ {ts:List TypeId} {vs:List Value} {ds:List (DataW H)} {ps:List MemPlace},(∀ t ∈ ts,t < Tryz.prog.types.size)->DataW.TrodAll enc Tryz.prog W 0 (fun _=>true) true ts vs ds ps ->
    (∀ p ∈ ps,p.block < W.heap.size)->(∀ p ∈ ps,sp p.block=true)->DataW.TrodAll enc Tryz.prog W' 0 sp true ts vs ds ps:=by
  intro ts vs ds ps hT h hlt hs;refine DataW.TrodAll.respare kids full hT ?_ hs;clear hs hT
  induction ts generalizing vs ds ps with
  | nil=>match vs,ds,h with
   | [],[],h=>exact h
  | cons t ts ih=>match vs,ds,h with
   | v :: vs,d :: ds,⟨p,q,⟨n,h1⟩,h2,e⟩=>
    subst e;exact ⟨p,q,⟨n,DataW.trod_carry n _ _ _ h1 (fun x hx=>same_at he (hlt x (List.mem_append_left _ hx)))⟩,ih h2 (fun x hx=>hlt x (List.mem_append_right _ hx)),rfl⟩
theorem post_ext {H:Type} {enc:TypeId × Value->H} {P:Program} {f:Func} {s:ChangeSpec} {W:World} {args:Array Value} {v:Value} {ds gs:List (DataW H)} {before pa pv:List MemPlace}
    (hW:DataW.Whole enc P f.params.toList s.vars false W args.toList ds gs before)
    (hres:∀ (b:Nat) (sp:Nat->Bool) (hd:Bool),DataW.TrodAll enc P W' b sp hd f.resultTypes.toList (v.resultList f.resultTypes.size) (s.fn H (ds ++ gs)).results [])
    (hargs:∀ sp:Nat->Bool,(∀ p ∈ before,sp p.block=true)->DataW.TrodAll enc P W' 0 sp true f.params.toList args.toList (s.fn H (ds ++ gs)).args pa)
    (hvars:∀ sp:Nat->Bool,(∀ p ∈ before,sp p.block=true)->DataW.TrodVars enc P W' sp s.vars (s.fn H (ds ++ gs)).vars pv)
    (hps:before=pa ++ pv) (hb:Ext W W'):s.post enc P f false true false false W args v W':=by
  have hold:∀ p ∈ before,(fun b=>decide (b < W.heap.size)) p.block=true:=fun p hp=>by simpa using hW.lt p hp
  refine ⟨ds,gs,before,[],pa,pv,hW,hres _ _ _,hargs _ hold,hvars _ hold,World.keptBut_mono (fun p hp=>⟨hp, ?_⟩) (Below.frame hb (· ∈ before)),fun h=>by cases h⟩;rw [hps,List.mem_append] at hp;exact Or.inr hp
theorem cellsOf_I:Tryz.prog.cellsOf 3=1:=by kernel_rfl
theorem cellsOf_B:Tryz.prog.cellsOf 5=1:=by kernel_rfl
theorem cellsOf_L:Tryz.prog.cellsOf 22=1:=by kernel_rfl
theorem cellsOf_V:Tryz.prog.cellsOf 43=2:=by kernel_rfl
theorem cellsOf_A:Tryz.prog.cellsOf 85=5:=by kernel_rfl
section
variable {H:Type} {enc:TypeId × Value->H} {w:World} {base:Nat} {held:Bool}
theorem open_ints {fuel:Nat} {v:Value} {y:DataW H × List MemPlace} (h:DataW.trod enc Tryz.prog w base (fun _=>true) held fuel 22 [v]=some y):∃ (q:Option Addr) (c:Nat) (l:List Int),v = .slice q l.length c/\SliceAt w q c l/\(q=none->c=0):=by
 rcases Go.Deep.open_slice1 Tryz.underlying22 cellsOf_I h with ⟨hcs,-⟩ | ⟨a,len,cap,m,n,V,D,Pl,hcs,hb,hl,hm,hmm,hx,hi⟩
 . exact ⟨none,0,[],(List.cons.inj hcs).1,⟨by simp,by omega,by simp,fun h=>by simp at h⟩,fun _=>rfl⟩
 have hcs:=(List.cons.inj hcs).1
 simp only [if_true] at hmm
 subst hmm
 have num:∀ i,i < m -> ∃ z:Int,V i = .int .i64 z /\ -9223372036854775808<=z/\z<=9223372036854775807:=fun i h=>by
  obtain ⟨-,h2⟩:=hi i h;obtain ⟨f,e0,_,wf0⟩:=DataW.trod_int Tryz.underlying3 h2;simp at e0;exact ⟨f,e0,bounds_i64 wf0⟩
 obtain ⟨z,hz⟩:∃ z:Nat->Int,∀ i,i < m->V i = .int .i64 (z i) /\ -9223372036854775808<=z i/\z i<=9223372036854775807:=
  ⟨fun i=>if h:i < m then (num i h).choose else 0,fun i h=>by simp only [dif_pos h];exact (num i h).choose_spec⟩
 refine ⟨some a,m,(List.range len).map z,by simpa using hcs,⟨by simpa using hl,by unfold maxLen at hm;omega,fun x hx=>?_,fun h0=>?_⟩,fun h=>by cases h⟩
 . obtain ⟨i,hi',rfl⟩:=List.mem_map.1 hx;have:=List.mem_range.1 hi';exact (hz i (by omega)).2
 simp only [List.length_map,List.length_range] at h0
 obtain ⟨b,off,spot⟩:=a
 have hspot:spot=none:=by simpa [Addr.add] using World.cell?_spot (hi 0 (by omega)).1
 subst hspot
 have key:∀ j,j < len->w.cell? ⟨b,off+j,none⟩=some (.int .i64 (z j)):=fun j hj=>by
  have:=(hi j (by omega)).1;rw [(hz j (by omega)).1,Addr.add_lit] at this;exact this
 refine ⟨b,off,rfl,cell_lt (key 0 h0),fun j x hx=>?_⟩
 have hj:=rd_lt hx
 simp only [List.length_map,List.length_range] at hj
 have:z j=x:=by simpa [Hp.rd,hj] using hx
 rw [<- this]
 exact key j hj
theorem open_acts {fuel:Nat} {v:Value} {y:DataW H × List MemPlace} (h:DataW.trod enc Tryz.prog w base (fun _=>true) held fuel 23 [v]=some y):∃ (pa:Option Addr) (ca:Nat) (acts:List Hp.Act'),v = .slice pa acts.length ca/\ActsW w pa ca acts/\NilActs w pa acts:=by
 rcases Go.Deep.open_slice Tryz.underlying23 h with ⟨hcs,-⟩ | ⟨a,len,cap,m,n,D,Pl,hcs,hb,hl,hm,hmm,hx,hi⟩
 . exact ⟨none,0,[],(List.cons.inj hcs).1,⟨by simp,by omega,fun h=>by simp at h⟩,fun b o j x q c hp=>by cases hp⟩
 have hcs:=(List.cons.inj hcs).1
 simp only [if_true] at hmm
 subst hmm
 rw [cellsOf_A] at hi
 have num:∀ i,i < m -> ∃ (x:Hp.Act'),∃ (q:Option Addr) (c f:Nat),ActOk { x with list:=[] } f/\w.cell? (a.add (i * 5))=some (.int .u8 x.kind)/\w.cell? (a.add (i * 5+1))=some (.int .i64 x.a)/\w.cell? (a.add (i * 5+2))=some (.slice q x.list.length c)/\w.cell? (a.add (i * 5+3))=some (.int .u8 f)/\w.cell? (a.add (i * 5+4))=some (.int .i64 x.n)/\SliceAt w q c x.list/\(q=none->c=0):=fun i h=>by
  obtain ⟨cs,hc,ht⟩:=hi i h;obtain ⟨_,hlen,hcell⟩:=World.cells?_some hc
  match cs,hlen with
  | [c0,c1,c2,c3,c4],_=>
   obtain ⟨xs,k,-,-,-,hxl,hf⟩:=DataW.trod_struct Tryz.underlying85 ht;have f0:DataW.trod enc Tryz.prog w base (fun _=>true) held k 5 (([c0,c1,c2,c3,c4].drop 0).take (Tryz.prog.cellsOf 5))=xs[0]? := hf 0 _ rfl;rw [cellsOf_B] at f0;have f1:DataW.trod enc Tryz.prog w base (fun _=>true) held k 3 (([c0,c1,c2,c3,c4].drop 1).take (Tryz.prog.cellsOf 3))=xs[1]? := hf 1 _ rfl;rw [cellsOf_I] at f1;have f2:DataW.trod enc Tryz.prog w base (fun _=>true) held k 22 (([c0,c1,c2,c3,c4].drop 2).take (Tryz.prog.cellsOf 22))=xs[2]? := hf 2 _ rfl;rw [cellsOf_L] at f2;have f3:DataW.trod enc Tryz.prog w base (fun _=>true) held k 43 (([c0,c1,c2,c3,c4].drop 3).take (Tryz.prog.cellsOf 43))=xs[3]? := hf 3 _ rfl;rw [cellsOf_V] at f3;simp only [List.drop_succ_cons,List.drop_zero,List.take_succ_cons,List.take_zero] at f0 f1 f2 f3;clear hf;have hxl4:xs.length=4:=hxl;have fin:∀ j,j < 4 -> ∃ y,xs[j]? = some y:=fun j hj=>⟨_,List.getElem?_eq_getElem (by omega)⟩
   obtain ⟨y0,g0⟩:=fin 0 (by omega);obtain ⟨y1,g1⟩:=fin 1 (by omega);obtain ⟨y2,g2⟩:=fin 2 (by omega);obtain ⟨y3,g3⟩:=fin 3 (by omega);rw [g0] at f0;rw [g1] at f1;rw [g2] at f2;rw [g3] at f3;obtain ⟨k0,e0,_,w0⟩:=DataW.trod_int Tryz.underlying5 f0;obtain ⟨k1,e1,_,w1⟩:=DataW.trod_int Tryz.underlying3 f1;obtain ⟨q,c,l,e2,hs,hn⟩:=open_ints f2;obtain ⟨z0,z1,n',-,_,h0,h1⟩:=trod_struct2 Tryz.underlying43 f3;obtain ⟨k3,e3,_,w3⟩:=DataW.trod_int Tryz.underlying5 h0;obtain ⟨k4,e4,_,w4⟩:=DataW.trod_int Tryz.underlying3 h1;rw [cellsOf_B] at e3;rw [cellsOf_I] at e4;simp at e0 e1 e3 e4;subst e0 e1 e2 e3 e4;obtain ⟨b0,b1⟩:=bounds_u8 w0;obtain ⟨b2,b3⟩:=bounds_i64 w1;obtain ⟨b4,b5⟩:=bounds_u8 w3;obtain ⟨b6,b7⟩:=bounds_i64 w4;have cl:∀ (i2:Nat) (u:Value),[Value.int .u8 k0,.int .i64 k1,.slice q l.length c,.int .u8 k3,.int .i64 k4][i2]? = some u->w.cell? ((a.add (i * 5)).add i2)=some u:=fun i2 u hu=>by
    rw [hcell i2 (by have:=(List.getElem?_eq_some_iff.1 hu).1;simpa using this)]
    exact hu
   refine ⟨⟨k0,k1,l,k3,k4⟩,q,c,k3.toNat,⟨b0,by show k3=_;omega,by omega,b6,b7,b2,b3,by simp⟩, ?_, ?_, ?_, ?_, ?_,hs,hn⟩
   . have:=cl 0 _ rfl
     rwa [Go.Deep.add_add] at this
   . have:=cl 1 _ rfl
     rwa [Go.Deep.add_add] at this
   . have:=cl 2 _ rfl
     rwa [Go.Deep.add_add] at this
   . have:=cl 3 _ rfl;rw [Go.Deep.add_add] at this;rw [this,show ((k3.toNat:Nat):Int)=k3 by omega]
   have:=cl 4 _ rfl
   rwa [Go.Deep.add_add] at this
 obtain ⟨z,hz⟩:∃ z:Nat->Hp.Act',∀ i,i < m -> ∃ (q:Option Addr) (c f:Nat),ActOk { z i with list:=[] } f/\w.cell? (a.add (i * 5))=some (.int .u8 (z i).kind)/\w.cell? (a.add (i * 5+1))=some (.int .i64 (z i).a)/\w.cell? (a.add (i * 5+2))=some (.slice q (z i).list.length c)/\w.cell? (a.add (i * 5+3))=some (.int .u8 f)/\w.cell? (a.add (i * 5+4))=some (.int .i64 (z i).n)/\SliceAt w q c (z i).list/\(q=none->c=0):=
  ⟨fun i=>if h:i < m then (num i h).choose else ⟨0,0,[],0,0⟩,fun i h=>by simp only [dif_pos h];exact (num i h).choose_spec⟩
 have zl:∀ (j:Nat) (x:Hp.Act'),((List.range len).map z)[j]? = some x->j < len/\x=z j:=fun j x hx=>by
  have hj:j < len:=by simpa using (List.getElem?_eq_some_iff.1 hx).1
  exact ⟨hj,by simpa [hj,eq_comm] using hx⟩
 refine ⟨some a,m,(List.range len).map z,by simpa using hcs,⟨by simpa using hl,by unfold maxLen at hm;omega,fun h0=>?_⟩,fun b o j x q c hp hx hc hq=>?_⟩
 . simp only [List.length_map,List.length_range] at h0;obtain ⟨b,off,spot⟩:=a;have hspot:spot=none:=by
    obtain ⟨_,_,_,_,h1,_⟩:=hz 0 (by omega)
    simpa [Addr.add] using World.cell?_spot h1
   subst hspot;refine ⟨b,off,rfl, ?_,fun j x hx=>?_⟩
   . obtain ⟨_,_,_,_,h1,_⟩:=hz 0 (by omega);rw [Addr.add_lit] at h1;exact cell_lt h1
   obtain ⟨hj,rfl⟩:=zl j x hx;obtain ⟨q,c,f,h1,h2,h3,h4,h5,h6,h7,_⟩:=hz j (by omega);rw [Addr.add_lit] at h2 h3 h4 h5 h6;exact ⟨q,c,f,h1,h2,h3,h4,h5,h6,h7⟩
 obtain ⟨hj,rfl⟩:=zl j x hx
 cases hp
 obtain ⟨q',c',f,h1,h2,h3,h4,h5,h6,h7,h8⟩:=hz j (by omega)
 have:w.cell? ⟨b,o+j * 5+2,none⟩=some (.slice q' (z j).list.length c'):=by
  rw [Addr.add_lit] at h4;exact h4
 rw [this] at hc
 cases hc
 exact h8 hq
set_option maxRecDepth 100000 in
theorem open_S {r:Reach} {b0:Nat} {v:Value} {d:DataW H} {p:List MemPlace} (hv:Value.okWide Tryz.prog w r b0 25 v) (h:DataW.Trod enc Tryz.prog w base (fun _=>true) held 25 v d p) :
    ∃ (sp op pa:Option Addr) (sc oc ca:Nat) (z o:List Int) (n:Int) (acts:List Hp.Act'),v = .agg #[.slice sp z.length sc,.slice op o.length oc,.int .i64 n,.slice pa acts.length ca]/\SAt w sp sc op oc pa ca z o acts /\ -9223372036854775808<=n/\n<=9223372036854775807:=by
  obtain ⟨c0,c1,c2,c3,y0,y1,y2,y3,m,rfl,-,-,h0,h1,h2,h3⟩:=open_agg4 Tryz.underlying25 (by kernel_rfl) (by kernel_rfl) hv h;obtain ⟨sp,sc,z,rfl,s0,n0⟩:=open_ints h0;obtain ⟨op,oc,o,rfl,s1,n1⟩:=open_ints h1;obtain ⟨n,e2,_,wf⟩:=DataW.trod_int Tryz.underlying3 h2;obtain ⟨pa,ca,acts,rfl,s3,n3⟩:=open_acts h3;simp at e2;subst e2;exact ⟨sp,op,pa,sc,oc,ca,z,o,n,acts,rfl,⟨n3,s0,s1,s3,n0,n1⟩,bounds_i64 wf⟩
end
end Go.Proofs.YtdokmmhjmclmnaaGreat
