/-
  Part 35 of a proof: NM5.
-/
import Derived.Test.YtdokmmhjmclmnaaGreatMN34
set_option linter.unusedSimpArgs false
set_option linter.unusedVariables false
set_option linter.unusedSectionVars false
set_option linter.unnecessarySimpa false
namespace Go.Proofs.YtdokmmhjmclmnaaGreat
open Go.RowKit Go.Maps
set_option maxRecDepth 100000 in
set_option maxHeartbeats 16000000 in
theorem mkNode_old {wb w:World} {i:Mkr} {E:List (Int × Int)} {N:List (Int × List Int)} {pe pn:Option Addr} {ce cn g0 c0 j:Nat} {K:List (Nat × Nat)} {c:Int} {ks:List Int} (h:MkSt wb w i E N pe ce pn cn K) (hs:SliceAt w (some ⟨g0,0,none⟩) c0 ks) (h0:wb.heap.size ≤ g0 ∧ g0 < w.heap.size) (h2:g0 ∉ i.dyn pe pn) (hf:Nd.flat ks=false) (hl0:0 < ks.length) (hl1:ks.length ≤ 12)
    (hq:okN (keyQ (c,ks))) (hinj:∀ y ∈ N,keyQ y=keyQ (c,ks) → y=(c,ks)) (hj:N.idxOf? (c,ks)=some j) (hjl:j ≤ 1000000) :
    Calls Tryz.prog 199 #[.pointer (some ⟨i.gm,0,none⟩),.int .i64 c,.slice (some ⟨g0,0,none⟩) ks.length c0] w (MkPost wb w i (i.dyn pe pn) (j:Int) E N K):=by
  have HS:=Lib.hid hs;have AL:=Lib.hid (fun t W hE=>mkAll hs hl0 hf t W hE);have H:=Lib.hid h;have LK:=Lib.hid (fun W (hE:Ext w W)=>by have:=(h.n.nm.ext hE).lookOk keyN (t:=190) Tryz.underlying190 hq;rw [idxOf_map hinj,hj] at this;exact this);have c8:=h.c.c8;have c5:=h.c.c5;have z8:=cell_lt c8;have hk13:=hq.1;have HK2:=Lib.hid (show keyQ (c,ks)=c :: (ks ++ List.replicate (12-ks.length) 0) from rfl);have H0:=Lib.hid h0;have H2:=Lib.hid h2;have hml:0 < ks.length ∧ ks.length ≤ 12:=⟨hl0,hl1⟩
  clear h hs hf hinj hj hq h0 h2;obtain ⟨a0,a1,a2,a3,a4,a5,a6,a7,a8,a9,a10,a11,a12,hkl⟩:=list13 hk13;rw [hkl] at LK HK2 ;unfold encN at LK ;simp only [ints,List.map_cons,List.map_nil] at LK ;clear hkl hk13;go_enter Tryz.func199,Tryz.ntmps199;go_upto_region 4 with (go_at_call 189;refine (AL.out _ _ (exx)).mono ?_;rintro e w1 ⟨rfl,hb1⟩;obtain ⟨hc1,hf1,hs1⟩:=hb1.cells;have hz1_0:w.heap.size < w1.heap.size:=(by have h:=hb1.le;(try simp at h);omega);have hc1_0:=hb1.cell (b:=w.heap.size) (by first | omega | (simp;done) | (simp;omega));have hf1_0:=hb1.frozen (b:=w.heap.size) (by first | omega | (simp;done) | (simp;omega)))
  clear AL;have E10:Ext w (w1.alloc (.cells #[.int .i64 c,.int .i64 0,.int .i64 0,.int .i64 0,.int .i64 0,.int .i64 0,.int .i64 0,.int .i64 0,.int .i64 0,.int .i64 0,.int .i64 0,.int .i64 0,.int .i64 0] 204)):=exx;have hg10:(w1.alloc (.cells #[.int .i64 c,.int .i64 0,.int .i64 0,.int .i64 0,.int .i64 0,.int .i64 0,.int .i64 0,.int .i64 0,.int .i64 0,.int .i64 0,.int .i64 0,.int .i64 0,.int .i64 0] 204)).heap[w1.heap.size]? = some (.cells (ints (c :: List.replicate 12 0)).toArray 204 (0,0)):=by
   have:=World.alloc_heap_new w1 (.cells #[.int .i64 c,.int .i64 0,.int .i64 0,.int .i64 0,.int .i64 0,.int .i64 0,.int .i64 0,.int .i64 0,.int .i64 0,.int .i64 0,.int .i64 0,.int .i64 0,.int .i64 0] 204)
   simpa [ints] using this
  have y10:(w1.alloc (.cells #[.int .i64 c,.int .i64 0,.int .i64 0,.int .i64 0,.int .i64 0,.int .i64 0,.int .i64 0,.int .i64 0,.int .i64 0,.int .i64 0,.int .i64 0,.int .i64 0,.int .i64 0] 204)).cell? ⟨w.heap.size,0,none⟩=some (.slice (some ⟨g0,0,none⟩) ks.length c0):=by
   have k:Ext w1 (w1.alloc (.cells #[.int .i64 c,.int .i64 0,.int .i64 0,.int .i64 0,.int .i64 0,.int .i64 0,.int .i64 0,.int .i64 0,.int .i64 0,.int .i64 0,.int .i64 0,.int .i64 0,.int .i64 0] 204)):=Ext.alloc (Ext.refl _) _;have y9:w1.cell? ⟨w.heap.size,0,none⟩=some (.slice (some ⟨g0,0,none⟩) ks.length c0):=(hc1_0 0).trans (by go_simp);exact (k.cell (cell_lt y9) 0).trans y9
  have zcb:w.heap.size < w1.heap.size:=by have:=hb1.le;simp at this;omega
  have GY:=Lib.hid (show w.heap.size ≤ w.heap.size from Nat.le_refl _);clear hb1 hc1 hf1 hs1 hz1_0 hc1_0 hf1_0;generalize w1.heap.size=cb at *;generalize w1.alloc (.cells #[.int .i64 c,.int .i64 0,.int .i64 0,.int .i64 0,.int .i64 0,.int .i64 0,.int .i64 0,.int .i64 0,.int .i64 0,.int .i64 0,.int .i64 0,.int .i64 0,.int .i64 0] 204)=wt at *;have mixed:Tryz.prog.follows .mixedOrders=true:=by kernel_rfl
  have zy:=cell_lt y10;have EE10:=Lib.hid E10;refine wp_region_any (by kernel_rfl) ?_;have PR28:=Lib.hid (fun (ww:World) (hSw:Ext wt ww)=>(hSw.cell zy 0).trans y10);refine wpAny_to_X (S:=fun W=>Ext wt W) (R:=Ext) 3 3 Ext.refl ?_ ?_ (by rfl)
  · exact Ext.drew exx
  refine' tkY 0 rfl ?h0_1485 ?_
  case h0_1485=>(intro w q;obtain y10':=PR28.out w q;go_simp;try with_reducible rfl)
  refine layy ?_;refine' tkY 1 rfl ?h1_1486 ?_
  case h1_1486=>(intro w q;obtain y10':=PR28.out w q;go_simp;try with_reducible rfl)
  refine layy ?_;refine' tkY 2 rfl ?h2_1487 ?_
  case h2_1487=>(intro w q;obtain y10':=PR28.out w q;go_simp;try with_reducible rfl)
  refine layy ?_;refine wpAnyX_done (by kernel_rfl) ?_;intro x1 _ Ex1;simp only [List.drop_succ_cons,List.drop_zero];have hg11:x1.heap[cb]? = some (.cells (ints (c :: List.replicate 12 0)).toArray 204 (0,0)):=(Ex1.block _ (Array.getElem?_eq_some_iff.1 hg10).1).trans hg10;obtain ⟨x2,hcp,hg12,hb12⟩:=key_copied hg11 (HS.out.ext (EE10.out.trans Ex1)) hml.1 hml.2;rw [← HK2.out] at hg12;simp only [ints,List.map_cons,List.map_nil] at hg12;have QC:∀ (j:Nat) (v:Value),(#[.int .i64 a0,.int .i64 a1,.int .i64 a2,.int .i64 a3,.int .i64 a4,.int .i64 a5,.int .i64 a6,.int .i64 a7,.int .i64 a8,.int .i64 a9,.int .i64 a10,.int .i64 a11,.int .i64 a12]:Array Value)[j]? = some v → x2.cell? ⟨cb,j,none⟩=some v:=fun j v hv=>by simp only [World.cell?,hg12];exact hv
  have q0:=QC 0 _ rfl;have q1:=QC 1 _ rfl;have q2:=QC 2 _ rfl;have q3:=QC 3 _ rfl;have q4:=QC 4 _ rfl;have q5:=QC 5 _ rfl;have q6:=QC 6 _ rfl;have q7:=QC 7 _ rfl;have q8:=QC 8 _ rfl;have q9:=QC 9 _ rfl;have q10:=QC 10 _ rfl;have q11:=QC 11 _ rfl;have q12:=QC 12 _ rfl;have E2:=Lib.hid (But.toExt EE10.out (But.trans (But.ofExt (l:=[cb]) Ex1) hb12) (by simp;omega));have y12:=(hb12.cell (cell_lt ((Ex1.cell zy 0).trans y10)) (by simp;omega) 0).trans ((Ex1.cell zy 0).trans y10);have m82:=(E2.out.cell z8 8).trans c8;have m52:=(E2.out.cell z8 5).trans c5;clear hg10 y10 zy E10 EE10 hg11 hb12 Ex1 QC hg12 c8 c5 z8;go_upto_region 5 with fail
  clear hcp;have zk2:=cell_lt q0;have zy2:=cell_lt y12;have zm2:=cell_lt m82;have PR29:=Lib.hid (fun (ww:World) (hSw:Ext x2 ww)=>And.intro ((hSw.cell zm2 8).trans m82) (And.intro ((hSw.cell zk2 0).trans q0) (And.intro ((hSw.cell zk2 1).trans q1) (And.intro ((hSw.cell zk2 2).trans q2) (And.intro ((hSw.cell zk2 3).trans q3) (And.intro ((hSw.cell zk2 4).trans q4) (And.intro ((hSw.cell zk2 5).trans q5) (And.intro ((hSw.cell zk2 6).trans q6) (And.intro ((hSw.cell zk2 7).trans q7) (And.intro ((hSw.cell zk2 8).trans q8) (And.intro ((hSw.cell zk2 9).trans q9) (And.intro ((hSw.cell zk2 10).trans q10) (And.intro ((hSw.cell zk2 11).trans q11) (And.intro ((hSw.cell zk2 12).trans q12) (LK.out _ (E2.out.trans hSw))))))))))))))));refine wp_region_seq (S:=fun W=>Ext x2 W) (R:=Ext) (by kernel_rfl) Ext.refl ?_ ?_
  · exact exx
  refine' tkL 0 rfl ?h0_1488 ?_
  case h0_1488=>(intro w q;obtain ⟨m8',q0',q1',q2',q3',q4',q5',q6',q7',q8',q9',q10',q11',q12',hl⟩:=PR29.out w q;go_simp;try with_reducible rfl)
  refine layy ?_;refine' tkL 1 rfl ?h1_1489 ?_
  case h1_1489=>(intro w q;obtain ⟨m8',q0',q1',q2',q3',q4',q5',q6',q7',q8',q9',q10',q11',q12',hl⟩:=PR29.out w q;go_simp;try with_reducible rfl)
  refine layy ?_;refine' tkL 2 rfl ?h2_1490 ?_
  case h2_1490=>(intro w q;obtain ⟨m8',q0',q1',q2',q3',q4',q5',q6',q7',q8',q9',q10',q11',q12',hl⟩:=PR29.out w q;go_simp;try with_reducible rfl)
  refine layy ?_;refine' tkL 3 rfl ?h3_1491 ?_
  case h3_1491=>(intro w q;obtain ⟨m8',q0',q1',q2',q3',q4',q5',q6',q7',q8',q9',q10',q11',q12',hl⟩:=PR29.out w q;go_simp;try with_reducible rfl)
  refine layy ?_;refine' tkL 4 rfl ?h4_1492 ?_
  case h4_1492=>(intro w q;obtain ⟨m8',q0',q1',q2',q3',q4',q5',q6',q7',q8',q9',q10',q11',q12',hl⟩:=PR29.out w q;go_simp;try with_reducible rfl)
  refine layy ?_;refine' tkL 5 rfl ?h5_1493 ?_
  case h5_1493=>(intro w q;obtain ⟨m8',q0',q1',q2',q3',q4',q5',q6',q7',q8',q9',q10',q11',q12',hl⟩:=PR29.out w q;go_simp;try with_reducible rfl)
  refine layy ?_;refine' tkL 6 rfl ?h6_1494 ?_
  case h6_1494=>(intro w q;obtain ⟨m8',q0',q1',q2',q3',q4',q5',q6',q7',q8',q9',q10',q11',q12',hl⟩:=PR29.out w q;go_simp;try with_reducible rfl)
  refine layy ?_;refine' tkL 7 rfl ?h7_1495 ?_
  case h7_1495=>(intro w q;obtain ⟨m8',q0',q1',q2',q3',q4',q5',q6',q7',q8',q9',q10',q11',q12',hl⟩:=PR29.out w q;go_simp;try with_reducible rfl)
  refine layy ?_;refine' tkL 8 rfl ?h8_1496 ?_
  case h8_1496=>(intro w q;obtain ⟨m8',q0',q1',q2',q3',q4',q5',q6',q7',q8',q9',q10',q11',q12',hl⟩:=PR29.out w q;go_simp;try with_reducible rfl)
  refine layy ?_;refine' tkL 9 rfl ?h9_1497 ?_
  case h9_1497=>(intro w q;obtain ⟨m8',q0',q1',q2',q3',q4',q5',q6',q7',q8',q9',q10',q11',q12',hl⟩:=PR29.out w q;go_simp;try with_reducible rfl)
  refine layy ?_;refine' tkL 10 rfl ?h10_1498 ?_
  case h10_1498=>(intro w q;obtain ⟨m8',q0',q1',q2',q3',q4',q5',q6',q7',q8',q9',q10',q11',q12',hl⟩:=PR29.out w q;go_simp;try with_reducible rfl)
  refine layy ?_;refine wpAnyR_done (by kernel_rfl) ?_ _;intro x3 _ Ex3;have E3:=Lib.hid (E2.out.trans Ex3)
  go_wp2_with fail
  go_returns;exact ⟨rfl,pe,ce,pn,cn,H.out.ext' E3.out,But.ofExt E3.out,fun b hb=>.inl hb⟩
set_option maxRecDepth 100000 in
set_option maxHeartbeats 16000000 in
theorem mkNode_new {wb w:World} {i:Mkr} {E:List (Int × Int)} {N:List (Int × List Int)} {pe pn:Option Addr} {ce cn g0 c0:Nat} {K:List (Nat × Nat)} {c:Int} {ks:List Int} (h:MkSt wb w i E N pe ce pn cn K) (hs:SliceAt w (some ⟨g0,0,none⟩) c0 ks) (h0:wb.heap.size ≤ g0 ∧ g0 < w.heap.size) (h2:g0 ∉ i.dyn pe pn) (hf:Nd.flat ks=false) (hl0:0 < ks.length) (hl1:ks.length ≤ 12)
    (hq:okN (keyQ (c,ks))) (hinj:∀ y ∈ N,keyQ y=keyQ (c,ks) → y=(c,ks)) (hj:N.idxOf? (c,ks)=none) (hjl:N.length ≤ 100000) :
    Calls Tryz.prog 199 #[.pointer (some ⟨i.gm,0,none⟩),.int .i64 c,.slice (some ⟨g0,0,none⟩) ks.length c0] w (MkPost wb w i (i.dyn pe pn) (N.length:Int) E (N ++ [(c,ks)]) (K ++ [(g0,c0)])):=by
  have HS:=Lib.hid hs;have AL:=Lib.hid (fun t W hE=>mkAll hs hl0 hf t W hE);have H:=Lib.hid h;have LK:=Lib.hid (fun W (hE:Ext w W)=>by have:=(h.n.nm.ext hE).lookOk keyN (t:=190) Tryz.underlying190 hq;rw [idxOf_map hinj,hj] at this;exact this);have PU:=Lib.hid (fun W (hE:Ext w W)=>(h.n.nm.ext hE).put keyN (t:=190) Tryz.underlying190 hq (by rw [List.length_map];omega) (fun hm=>by
   obtain ⟨y,hy,e⟩:=List.mem_map.1 hm;exact List.idxOf?_eq_none_iff.1 hj (hinj y hy e ▸ hy)))
  have c8:=h.c.c8;have c5:=h.c.c5;have z8:=cell_lt c8;have hk13:=hq.1;have HK2:=Lib.hid (show keyQ (c,ks)=c :: (ks ++ List.replicate (12-ks.length) 0) from rfl);obtain ⟨nn,hnn⟩:∃ nn,N.length=nn:=⟨_,rfl⟩
  have HNN:=Lib.hid hnn;rw [List.length_map,hnn] at PU;rw [hnn] at c5 hjl ⊢;clear hnn;have H0:=Lib.hid h0;have H2:=Lib.hid h2;have hml:0 < ks.length ∧ ks.length ≤ 12:=⟨hl0,hl1⟩
  clear h hs hf hinj hj hq h0 h2;obtain ⟨a0,a1,a2,a3,a4,a5,a6,a7,a8,a9,a10,a11,a12,hkl⟩:=list13 hk13;rw [hkl] at LK HK2 PU;unfold encN at LK PU;simp only [ints,List.map_cons,List.map_nil] at LK PU;have HK2x:=Lib.hid hkl;clear hkl hk13;go_enter Tryz.func199,Tryz.ntmps199;go_upto_region 4 with (go_at_call 189;refine (AL.out _ _ (exx)).mono ?_;rintro e w1 ⟨rfl,hb1⟩;obtain ⟨hc1,hf1,hs1⟩:=hb1.cells;have hz1_0:w.heap.size < w1.heap.size:=(by have h:=hb1.le;(try simp at h);omega);have hc1_0:=hb1.cell (b:=w.heap.size) (by first | omega | (simp;done) | (simp;omega));have hf1_0:=hb1.frozen (b:=w.heap.size) (by first | omega | (simp;done) | (simp;omega)))
  clear AL;have E10:Ext w (w1.alloc (.cells #[.int .i64 c,.int .i64 0,.int .i64 0,.int .i64 0,.int .i64 0,.int .i64 0,.int .i64 0,.int .i64 0,.int .i64 0,.int .i64 0,.int .i64 0,.int .i64 0,.int .i64 0] 204)):=exx;have hg10:(w1.alloc (.cells #[.int .i64 c,.int .i64 0,.int .i64 0,.int .i64 0,.int .i64 0,.int .i64 0,.int .i64 0,.int .i64 0,.int .i64 0,.int .i64 0,.int .i64 0,.int .i64 0,.int .i64 0] 204)).heap[w1.heap.size]? = some (.cells (ints (c :: List.replicate 12 0)).toArray 204 (0,0)):=by
   have:=World.alloc_heap_new w1 (.cells #[.int .i64 c,.int .i64 0,.int .i64 0,.int .i64 0,.int .i64 0,.int .i64 0,.int .i64 0,.int .i64 0,.int .i64 0,.int .i64 0,.int .i64 0,.int .i64 0,.int .i64 0] 204)
   simpa [ints] using this
  have y10:(w1.alloc (.cells #[.int .i64 c,.int .i64 0,.int .i64 0,.int .i64 0,.int .i64 0,.int .i64 0,.int .i64 0,.int .i64 0,.int .i64 0,.int .i64 0,.int .i64 0,.int .i64 0,.int .i64 0] 204)).cell? ⟨w.heap.size,0,none⟩=some (.slice (some ⟨g0,0,none⟩) ks.length c0):=by
   have k:Ext w1 (w1.alloc (.cells #[.int .i64 c,.int .i64 0,.int .i64 0,.int .i64 0,.int .i64 0,.int .i64 0,.int .i64 0,.int .i64 0,.int .i64 0,.int .i64 0,.int .i64 0,.int .i64 0,.int .i64 0] 204)):=Ext.alloc (Ext.refl _) _;have y9:w1.cell? ⟨w.heap.size,0,none⟩=some (.slice (some ⟨g0,0,none⟩) ks.length c0):=(hc1_0 0).trans (by go_simp);exact (k.cell (cell_lt y9) 0).trans y9
  have zcb:w.heap.size < w1.heap.size:=by have:=hb1.le;simp at this;omega
  have GY:=Lib.hid (show w.heap.size ≤ w.heap.size from Nat.le_refl _);clear hb1 hc1 hf1 hs1 hz1_0 hc1_0 hf1_0;generalize w1.heap.size=cb at *;generalize w1.alloc (.cells #[.int .i64 c,.int .i64 0,.int .i64 0,.int .i64 0,.int .i64 0,.int .i64 0,.int .i64 0,.int .i64 0,.int .i64 0,.int .i64 0,.int .i64 0,.int .i64 0,.int .i64 0] 204)=wt at *;have mixed:Tryz.prog.follows .mixedOrders=true:=by kernel_rfl
  have zy:=cell_lt y10;have EE10:=Lib.hid E10;refine wp_region_any (by kernel_rfl) ?_;have PR30:=Lib.hid (fun (ww:World) (hSw:Ext wt ww)=>(hSw.cell zy 0).trans y10);refine wpAny_to_X (S:=fun W=>Ext wt W) (R:=Ext) 3 3 Ext.refl ?_ ?_ (by rfl)
  · exact Ext.drew exx
  refine' tkY 0 rfl ?h0_1499 ?_
  case h0_1499=>(intro w q;obtain y10':=PR30.out w q;go_simp;try with_reducible rfl)
  refine layy ?_;refine' tkY 1 rfl ?h1_1500 ?_
  case h1_1500=>(intro w q;obtain y10':=PR30.out w q;go_simp;try with_reducible rfl)
  refine layy ?_;refine' tkY 2 rfl ?h2_1501 ?_
  case h2_1501=>(intro w q;obtain y10':=PR30.out w q;go_simp;try with_reducible rfl)
  refine layy ?_;refine wpAnyX_done (by kernel_rfl) ?_;intro x1 _ Ex1;simp only [List.drop_succ_cons,List.drop_zero];have hg11:x1.heap[cb]? = some (.cells (ints (c :: List.replicate 12 0)).toArray 204 (0,0)):=(Ex1.block _ (Array.getElem?_eq_some_iff.1 hg10).1).trans hg10;obtain ⟨x2,hcp,hg12,hb12⟩:=key_copied hg11 (HS.out.ext (EE10.out.trans Ex1)) hml.1 hml.2;rw [← HK2.out] at hg12;simp only [ints,List.map_cons,List.map_nil] at hg12;have QC:∀ (j:Nat) (v:Value),(#[.int .i64 a0,.int .i64 a1,.int .i64 a2,.int .i64 a3,.int .i64 a4,.int .i64 a5,.int .i64 a6,.int .i64 a7,.int .i64 a8,.int .i64 a9,.int .i64 a10,.int .i64 a11,.int .i64 a12]:Array Value)[j]? = some v → x2.cell? ⟨cb,j,none⟩=some v:=fun j v hv=>by simp only [World.cell?,hg12];exact hv
  have q0:=QC 0 _ rfl;have q1:=QC 1 _ rfl;have q2:=QC 2 _ rfl;have q3:=QC 3 _ rfl;have q4:=QC 4 _ rfl;have q5:=QC 5 _ rfl;have q6:=QC 6 _ rfl;have q7:=QC 7 _ rfl;have q8:=QC 8 _ rfl;have q9:=QC 9 _ rfl;have q10:=QC 10 _ rfl;have q11:=QC 11 _ rfl;have q12:=QC 12 _ rfl;have E2:=Lib.hid (But.toExt EE10.out (But.trans (But.ofExt (l:=[cb]) Ex1) hb12) (by simp;omega));have y12:=(hb12.cell (cell_lt ((Ex1.cell zy 0).trans y10)) (by simp;omega) 0).trans ((Ex1.cell zy 0).trans y10);have m82:=(E2.out.cell z8 8).trans c8;have m52:=(E2.out.cell z8 5).trans c5;clear hg10 y10 zy E10 EE10 hg11 hb12 Ex1 QC hg12 c8 c5 z8;go_upto_region 5 with fail
  clear hcp;have zk2:=cell_lt q0;have zy2:=cell_lt y12;have zm2:=cell_lt m82;have PR31:=Lib.hid (fun (ww:World) (hSw:Ext x2 ww)=>And.intro ((hSw.cell zm2 8).trans m82) (And.intro ((hSw.cell zk2 0).trans q0) (And.intro ((hSw.cell zk2 1).trans q1) (And.intro ((hSw.cell zk2 2).trans q2) (And.intro ((hSw.cell zk2 3).trans q3) (And.intro ((hSw.cell zk2 4).trans q4) (And.intro ((hSw.cell zk2 5).trans q5) (And.intro ((hSw.cell zk2 6).trans q6) (And.intro ((hSw.cell zk2 7).trans q7) (And.intro ((hSw.cell zk2 8).trans q8) (And.intro ((hSw.cell zk2 9).trans q9) (And.intro ((hSw.cell zk2 10).trans q10) (And.intro ((hSw.cell zk2 11).trans q11) (And.intro ((hSw.cell zk2 12).trans q12) (LK.out _ (E2.out.trans hSw))))))))))))))));refine wp_region_seq (S:=fun W=>Ext x2 W) (R:=Ext) (by kernel_rfl) Ext.refl ?_ ?_
  · exact exx
  refine' tkL 0 rfl ?h0_1502 ?_
  case h0_1502=>(intro w q;obtain ⟨m8',q0',q1',q2',q3',q4',q5',q6',q7',q8',q9',q10',q11',q12',hl⟩:=PR31.out w q;go_simp;try with_reducible rfl)
  refine layy ?_;refine' tkL 1 rfl ?h1_1503 ?_
  case h1_1503=>(intro w q;obtain ⟨m8',q0',q1',q2',q3',q4',q5',q6',q7',q8',q9',q10',q11',q12',hl⟩:=PR31.out w q;go_simp;try with_reducible rfl)
  refine layy ?_;refine' tkL 2 rfl ?h2_1504 ?_
  case h2_1504=>(intro w q;obtain ⟨m8',q0',q1',q2',q3',q4',q5',q6',q7',q8',q9',q10',q11',q12',hl⟩:=PR31.out w q;go_simp;try with_reducible rfl)
  refine layy ?_;refine' tkL 3 rfl ?h3_1505 ?_
  case h3_1505=>(intro w q;obtain ⟨m8',q0',q1',q2',q3',q4',q5',q6',q7',q8',q9',q10',q11',q12',hl⟩:=PR31.out w q;go_simp;try with_reducible rfl)
  refine layy ?_;refine' tkL 4 rfl ?h4_1506 ?_
  case h4_1506=>(intro w q;obtain ⟨m8',q0',q1',q2',q3',q4',q5',q6',q7',q8',q9',q10',q11',q12',hl⟩:=PR31.out w q;go_simp;try with_reducible rfl)
  refine layy ?_;refine' tkL 5 rfl ?h5_1507 ?_
  case h5_1507=>(intro w q;obtain ⟨m8',q0',q1',q2',q3',q4',q5',q6',q7',q8',q9',q10',q11',q12',hl⟩:=PR31.out w q;go_simp;try with_reducible rfl)
  refine layy ?_;refine' tkL 6 rfl ?h6_1508 ?_
  case h6_1508=>(intro w q;obtain ⟨m8',q0',q1',q2',q3',q4',q5',q6',q7',q8',q9',q10',q11',q12',hl⟩:=PR31.out w q;go_simp;try with_reducible rfl)
  refine layy ?_;refine' tkL 7 rfl ?h7_1509 ?_
  case h7_1509=>(intro w q;obtain ⟨m8',q0',q1',q2',q3',q4',q5',q6',q7',q8',q9',q10',q11',q12',hl⟩:=PR31.out w q;go_simp;try with_reducible rfl)
  refine layy ?_;refine' tkL 8 rfl ?h8_1510 ?_
  case h8_1510=>(intro w q;obtain ⟨m8',q0',q1',q2',q3',q4',q5',q6',q7',q8',q9',q10',q11',q12',hl⟩:=PR31.out w q;go_simp;try with_reducible rfl)
  refine layy ?_;refine' tkL 9 rfl ?h9_1511 ?_
  case h9_1511=>(intro w q;obtain ⟨m8',q0',q1',q2',q3',q4',q5',q6',q7',q8',q9',q10',q11',q12',hl⟩:=PR31.out w q;go_simp;try with_reducible rfl)
  refine layy ?_;refine' tkL 10 rfl ?h10_1512 ?_
  case h10_1512=>(intro w q;obtain ⟨m8',q0',q1',q2',q3',q4',q5',q6',q7',q8',q9',q10',q11',q12',hl⟩:=PR31.out w q;go_simp;try with_reducible rfl)
  refine layy ?_;refine wpAnyR_done (by kernel_rfl) ?_ _;intro x3 _ Ex3;have E3:=Lib.hid (E2.out.trans Ex3);have m83:=(Ex3.cell zm2 8).trans m82;have m53:=(Ex3.cell zm2 5).trans m52;have y13:=(Ex3.cell zy2 0).trans y12;have r0:=(Ex3.cell zk2 0).trans q0;have r1:=(Ex3.cell zk2 1).trans q1;have r2:=(Ex3.cell zk2 2).trans q2;have r3:=(Ex3.cell zk2 3).trans q3;have r4:=(Ex3.cell zk2 4).trans q4;have r5:=(Ex3.cell zk2 5).trans q5;have r6:=(Ex3.cell zk2 6).trans q6;have r7:=(Ex3.cell zk2 7).trans q7;have r8:=(Ex3.cell zk2 8).trans q8;have r9:=(Ex3.cell zk2 9).trans q9;have r10:=(Ex3.cell zk2 10).trans q10;have r11:=(Ex3.cell zk2 11).trans q11;have r12:=(Ex3.cell zk2 12).trans q12;clear q0 q1 q2 q3 q4 q5 q6 q7 q8 q9 q10 q11 q12 m82 m52 y12 zk2 zy2 zm2 Ex3;have zk3:=cell_lt r0;have zy3:=cell_lt y13;have zm3:=cell_lt m83;go_upto_region 8 with fail
  refine wp_region_any (by kernel_rfl) ?_;have PR32:=Lib.hid (fun (ww:World) (hSw:Ext x3 ww)=>And.intro ((hSw.cell zm3 8).trans m83) (And.intro ((hSw.cell zk3 0).trans r0) (And.intro ((hSw.cell zk3 1).trans r1) (And.intro ((hSw.cell zk3 2).trans r2) (And.intro ((hSw.cell zk3 3).trans r3) (And.intro ((hSw.cell zk3 4).trans r4) (And.intro ((hSw.cell zk3 5).trans r5) (And.intro ((hSw.cell zk3 6).trans r6) (And.intro ((hSw.cell zk3 7).trans r7) (And.intro ((hSw.cell zk3 8).trans r8) (And.intro ((hSw.cell zk3 9).trans r9) (And.intro ((hSw.cell zk3 10).trans r10) (And.intro ((hSw.cell zk3 11).trans r11) ((hSw.cell zk3 12).trans r12))))))))))))));refine wpAny_to_X (S:=fun W=>Ext x3 W) (R:=Ext) 6 6 Ext.refl ?_ ?_ (by rfl)
  · exact Ext.drew exx
  refine' tkY 0 rfl ?h0_1513 ?_
  case h0_1513=>(intro w q;obtain ⟨m8',q0',q1',q2',q3',q4',q5',q6',q7',q8',q9',q10',q11',q12'⟩:=PR32.out w q;go_simp;try with_reducible rfl)
  refine layy ?_;refine' tkY 1 rfl ?h1_1514 ?_
  case h1_1514=>(intro w q;obtain ⟨m8',q0',q1',q2',q3',q4',q5',q6',q7',q8',q9',q10',q11',q12'⟩:=PR32.out w q;go_simp;try with_reducible rfl)
  refine layy ?_;refine' tkY 2 rfl ?h2_1515 ?_
  case h2_1515=>(intro w q;obtain ⟨m8',q0',q1',q2',q3',q4',q5',q6',q7',q8',q9',q10',q11',q12'⟩:=PR32.out w q;go_simp;try with_reducible rfl)
  refine layy ?_;refine' tkY 3 rfl ?h3_1516 ?_
  case h3_1516=>(intro w q;obtain ⟨m8',q0',q1',q2',q3',q4',q5',q6',q7',q8',q9',q10',q11',q12'⟩:=PR32.out w q;go_simp;try with_reducible rfl)
  refine layy ?_;refine' tkY 4 rfl ?h4_1517 ?_
  case h4_1517=>(intro w q;obtain ⟨m8',q0',q1',q2',q3',q4',q5',q6',q7',q8',q9',q10',q11',q12'⟩:=PR32.out w q;go_simp;try with_reducible rfl)
  refine layy ?_;refine' tkY 5 rfl ?h5_1518 ?_
  case h5_1518=>(intro w q;obtain ⟨m8',q0',q1',q2',q3',q4',q5',q6',q7',q8',q9',q10',q11',q12'⟩:=PR32.out w q;go_simp;try with_reducible rfl)
  refine layy ?_;refine wpAnyX_done (by kernel_rfl) ?_;intro x4 _ Ex4;simp only [List.drop_succ_cons,List.drop_zero];have E4:=Lib.hid (E3.out.trans Ex4);have m54:=(Ex4.cell zm3 5).trans m53;have y14:=(Ex4.cell zy3 0).trans y13;obtain ⟨w5,hup,hm5,ht5⟩:=PU.out x4 E4.out;have N4:=Lib.hid (H.out.ext' E4.out);have B5:But [i.gn] x4 w5:=(But.refl _ _).turned ht5 (.inl (by simp));have gyx:w.heap.size ∉ [i.gn]:=fun hm=>by have:=(H.out.lo i.gn (.inl (MkSt.in_n _ _ _))).2;rw [List.mem_singleton.1 hm] at this;omega
  have gmx:i.gm ∉ [i.gn]:=by simpa using H.out.nd.2.1
  have y15:=(B5.cell (cell_lt y14) gyx 0).trans y14;have m55:=(B5.cell (cell_lt m54) gmx 5).trans m54;have NR:=Lib.hid (N4.out.n.nr.but B5 (fun b o e hm=>(N4.out.ndn b (mem_blk e)).2.2.1 (List.mem_singleton.1 hm)));have fz5:=(B5.frozen (cell_lt m54) gmx 5).trans (N4.out.c.z 5);have HB5:=Lib.hid B5;have HM5:=Lib.hid hm5;have HX4:=Lib.hid (show w.heap.size ≤ x4.heap.size from E4.out.le);clear m83 m53 y13 r0 r1 r2 r3 r4 r5 r6 r7 r8 r9 r10 r11 r12 zk3 zy3 zm3 m54 y14 Ex4 ht5 gyx gmx B5 hm5;go_upto_region 9 with fail
  clear hup;refine wp_region_any (by kernel_rfl) ?_;refine wpAny_to_X (S:=(fun W:World=>W.cell? ⟨w.heap.size,0,none⟩=some (.slice (some ⟨g0,0,none⟩) ks.length c0) ∧ W.cell? ⟨i.gm,5,none⟩=some (.slice pn nn cn))) (R:=Eq) 14 14 (fun _=>rfl) (by exact ⟨y15,m55⟩) ?_ (by rfl);refine' tkE 0 rfl ?hy0_1519 ?_
  case hy0_1519=>(intro w _;go_simp;try with_reducible rfl)
  refine layy ?_;refine' tkE 1 rfl ?hy1_1520 ?_
  case hy1_1520=>(intro w _;go_simp;try with_reducible rfl)
  refine layy ?_;refine' tkE 2 rfl ?hy2_1521 ?_
  case hy2_1521=>(intro w _;go_simp;try with_reducible rfl)
  refine layy ?_;refine' tkE 3 rfl ?hy3_1522 ?_
  case hy3_1522=>(intro w _;go_simp;try with_reducible rfl)
  refine layy ?_;refine' tkE 4 rfl ?hy4_1523 ?_
  case hy4_1523=>(intro w _;go_simp;try with_reducible rfl)
  refine layy ?_;refine' tkE 5 rfl ?hy5_1524 ?_
  case hy5_1524=>(intro w hSw;(obtain ⟨s1,s2⟩:=hSw);go_simp;try with_reducible rfl)
  refine layy ?_;refine' tkE 6 rfl ?hy6_1525 ?_
  case hy6_1525=>(intro w _;go_simp;try with_reducible rfl)
  refine layy ?_;refine' tkE 7 rfl ?hy7_1526 ?_
  case hy7_1526=>(intro w hSw;(obtain ⟨s1,s2⟩:=hSw);go_simp;try with_reducible rfl)
  refine layy ?_;refine' tkE 8 rfl ?hy8_1527 ?_
  case hy8_1527=>(intro w _;go_simp;try with_reducible rfl)
  refine layy ?_;have W5:=Lib.hid (show Ext w5 (World.drew w5) from Ext.drew (Ext.refl w5));change wpAnyX _ _ _ _ _ _ _ _ _ _ _ (World.drew w5);have yd:=(W5.out.cell (cell_lt y15) 0).trans y15;have md:=(W5.out.cell (cell_lt m55) 5).trans m55;generalize World.drew w5=wd at W5 yd md ⊢;refine wpAnyX_fork [9] (by kernel_rfl) (by simp) (by simp) ?_;intro i9 hi9;obtain rfl:i9=9:=by simpa using hi9
  have A6:Ext wd (wd.alloc (.cells #[.int .i64 c,.slice (some ⟨g0,0,none⟩) ks.length c0] 41)):=Ext.alloc (Ext.refl wd) _;have ya:=(A6.cell (cell_lt yd) 0).trans yd;have ma:=(A6.cell (cell_lt md) 5).trans md;have e0:(wd.alloc (.cells #[.int .i64 c,.slice (some ⟨g0,0,none⟩) ks.length c0] 41)).cell? ⟨wd.heap.size,0,none⟩=some (.int .i64 c):=by go_simp
  have e1:(wd.alloc (.cells #[.int .i64 c,.slice (some ⟨g0,0,none⟩) ks.length c0] 41)).cell? ⟨wd.heap.size,1,none⟩=some (.slice (some ⟨g0,0,none⟩) ks.length c0):=by go_simp
  refine wpOp_value (i:=9) (v:=.slice (some ⟨wd.heap.size,0,none⟩) 1 1) (w'':=wd.alloc (.cells #[.int .i64 c,.slice (some ⟨g0,0,none⟩) ks.length c0] 41)) rfl (by rfl) (by go_simp) ⟨⟨ya,ma⟩, ?_⟩;refine layy ?_;have W6:=Lib.hid (W5.out.trans A6);clear y15 m55 yd md A6;generalize wd.heap.size=gt at e0 e1 ⊢;generalize wd.alloc (.cells #[.int .i64 c,.slice (some ⟨g0,0,none⟩) ks.length c0] 41)=w6 at *;refine wpAnyX_fork [10] (by kernel_rfl) (by simp) (by simp) ?_;intro i10 hi10;obtain rfl:i10=10:=by simpa using hi10
  refine wpOp_append_N (i:=10) (.tmp 50) (.tmp 54) 47 41 rfl rfl (by rfl) (z:=.agg #[.int .i64 0,.slice none 0 0]) (n:=2) (bytes:=32) Tryz.underlying47 (by kernel_rfl) rfl (by decide) (by decide) (m:=nn) (by rw [List.length_zipWith,N4.out.n.kl,Nat.min_self,HNN.out]) rfl rfl (NR.out.ext W6.out) (y:=[.int .i64 c,.slice (some ⟨g0,0,none⟩) ks.length c0]) rfl (cells2 e0 e1) (by simp [Value.oneCell']) (by omega) ?_;intro g cap w7 row hR hG hrow hg hlt;have gm5:i.gm ∉ blk pn:=fun hm=>(N4.out.ndn _ hm).1 rfl
  have k7:But (blk pn) w6 w7:=⟨hG.os,hG.tape,hG.output,hG.size,fun j hj hn=>hG.block j hj fun e=>hn (by rw [hrow j e.symm];simp [blk])⟩
  have gyp:w.heap.size ∉ blk pn:=fun hm=>by have:=(H.out.lo _ (.inl (MkSt.in_pn _ _ _ hm))).2;omega
  have y17:=(k7.cell (cell_lt ya) gyp 0).trans ya;have m57:=(k7.cell (cell_lt ma) gm5 5).trans ma;have fz7:=(k7.frozen (cell_lt ma) gm5 5).trans ((W6.out.frozen (by have:=HB5.out.size;have:=(N4.out.lo i.gm (.inl (MkSt.in_m _ _ _))).2;omega) 5).trans fz5);have NB:=Lib.hid (N4.out.node_ (g0:=g0) (c0:=c0) (q:=(c,ks)) (HB5.out.trans (But.ofExt W6.out)) (by have:=HM5.out.ext W6.out;rw [← HK2x.out] at this;exact this) hR hG hrow hg hlt (HS.out.ext E4.out) ⟨H0.out.1,by have:=H0.out.2;have:=HX4.out;omega⟩ H2.out);rw [HNN.out] at NB;refine ⟨⟨y17,m57⟩, ?_⟩;refine layy ?_;clear hR hG hrow hg hlt k7 ya ma e0 e1 gm5 gyp
  skip
  refine' tkE 11 rfl ?hy11_1528 ?_
  case hy11_1528=>(intro w _;go_simp;try with_reducible rfl)
  refine layy ?_;refine' tkE 12 rfl ?hy12_1529 ?_
  case hy12_1529=>(intro w _;go_simp;try with_reducible rfl)
  refine layy ?_;refine' tkE 13 rfl ?hy13_1530 ?_
  case hy13_1530=>(intro w _;go_simp;try with_reducible rfl)
  refine layy ?_;refine wpAnyX_done (by kernel_rfl) ?_;intro w9 e9 _;subst e9;simp only [List.drop_succ_cons,List.drop_zero]
  go_wp2_with fail
  go_returns;obtain ⟨N8,B8,GI⟩:=NB.out;refine ⟨rfl,_,_,_,_,N8, ?_, ?_⟩
  · have b1:But (i.dyn pe pn) w x4:=But.ofExt E4.out;exact b1.trans (B8.mono (l':=i.dyn pe pn) (fun x hx=>by
     rcases List.mem_cons.1 hx with rfl | hx
     · exact MkSt.in_m _ _ _
     · rcases List.mem_cons.1 hx with rfl | hx
       · exact MkSt.in_n _ _ _
       · exact MkSt.in_pn _ _ _ hx))
  · intro b hb;have l2:=HX4.out;simp only [Mkr.dyn,blk,List.mem_cons,List.mem_append,List.not_mem_nil,or_false] at hb
    rcases hb with hb | hb | hb | hb | hb
    · exact .inl (by rw [hb];exact MkSt.in_m _ _ _)
    · exact .inl (by rw [hb];exact MkSt.in_e _ _ _)
    · exact .inl (by rw [hb];exact MkSt.in_n _ _ _)
    · exact .inl (MkSt.in_pe _ _ _ hb)
    · rw [hb]
      rcases GI with h | h
      · exact .inl (MkSt.in_pn _ _ _ h)
      · exact .inr (by omega)
end Go.Proofs.YtdokmmhjmclmnaaGreat
