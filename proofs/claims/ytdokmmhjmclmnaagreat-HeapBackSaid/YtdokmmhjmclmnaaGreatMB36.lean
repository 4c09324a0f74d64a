/-
  Part 36 of a proof: NM3 NM4 NM5.
-/
import Derived.Test.YtdokmmhjmclmnaaGreatMB19
import Derived.Test.YtdokmmhjmclmnaaGreatMB35
set_option linter.unusedSimpArgs false
set_option linter.unusedVariables false
set_option linter.unusedSectionVars false
set_option linter.unnecessarySimpa false
namespace Go.Proofs.YtdokmmhjmclmnaaGreat
open Go.RowKit Go.Maps
theorem nEnd2 {w:World} (k:Int) (h1:0 ≤ k) (h2:k ≤ 1000000000) :
    Calls Tryz.prog 198 #[.int .i64 k] w fun e w'=>e = .returned (.int .i64 (-1-k)) ∧ Ext w w':=by
  have s1:IntKind.i64.wrap (-1-k) = -1-k:=IntWalk.i64_in _ (by omega);clear h1 h2;go_enter Tryz.func198,Tryz.ntmps198
  go_wp2_with fail
  go_returns;exact ⟨rfl,exx⟩
def MkPost (wb w:World) (i:Mkr) (l:List Nat) (x:Int) (E:List (Int × Int)) (N:List (Int × List Int)) (K:List (Nat × Nat)) (e:Ending) (w':World):Prop:=
 e = .returned (.int .i64 x) ∧ ∃ (pe:Option Addr) (ce:Nat) (pn:Option Addr) (cn:Nat),MkSt wb w' i E N pe ce pn cn K ∧ But l w w' ∧ (∀ b ∈ i.dyn pe pn,b ∈ l ∨ w.heap.size ≤ b)
set_option maxRecDepth 100000 in
set_option maxHeartbeats 8000000 in
theorem mkEnd_old {wb w:World} {i:Mkr} {E:List (Int × Int)} {N:List (Int × List Int)} {pe pn:Option Addr} {ce cn j:Nat} {K:List (Nat × Nat)} (h:MkSt wb w i E N pe ce pn cn K) {v:Int × Int} (hv:okV v) (hj:E.idxOf? v=some j) (hjl:j ≤ 1000000) :
    Calls Tryz.prog 197 #[.pointer (some ⟨i.gm,0,none⟩),.agg #[.int .u8 v.1,.int .i64 v.2]] w (MkPost wb w i (i.dyn pe pn) (-1-(j:Int)) E N K):=by
  have H:=Lib.hid h;have LK:=Lib.hid (fun W (hE:Ext w W)=>by have:=(h.e.em.ext hE).lookOk keyV (t:=189) Tryz.underlying189 hv;rw [hj] at this;exact this);have c7:=h.c.c7;have z7:=cell_lt c7;have NE:=Lib.hid (fun W=>nEnd2 (w:=W) (j:Int) (by omega) (by omega));clear h hj;unfold encV at LK;obtain ⟨f,n⟩:=v;simp only at *;go_enter Tryz.func197,Tryz.ntmps197;go_upto_region 1 with fail
  refine cut_world (F:=fun W=>Hid (Ext w W) ∧ W.cell? ⟨w.heap.size,0,none⟩=some (.int .u8 f) ∧ W.cell? ⟨w.heap.size,1,none⟩=some (.int .i64 n)) ⟨Lib.hid (exx),by go_simp,by go_simp⟩ ?_;intro w0 ⟨E0,v0,v1⟩;generalize w.heap.size=gv at v0 v1 ⊢;have zv:=cell_lt v0;have m7:=(E0.out.cell z7 7).trans c7;have zm:=cell_lt m7;have mixed:Tryz.prog.follows .mixedOrders=true:=by kernel_rfl
  have PR38:=Lib.hid (fun (ww:World) (hSw:Ext w0 ww)=>And.intro ((hSw.cell zm 7).trans m7) (And.intro ((hSw.cell zv 0).trans v0) (And.intro ((hSw.cell zv 1).trans v1) (LK.out _ (E0.out.trans hSw)))));refine wp_region_seq (S:=fun W=>Ext w0 W) (R:=Ext) (by kernel_rfl) Ext.refl ?_ ?_
  · exact exx
  refine' tkL 0 rfl ?h0_1 ?_
  case h0_1=>(intro w q;obtain ⟨m7',v0',v1',hl⟩:=PR38.out w q;go_simp;try with_reducible rfl)
  refine layy ?_;refine' tkL 1 rfl ?h1_2 ?_
  case h1_2=>(intro w q;obtain ⟨m7',v0',v1',hl⟩:=PR38.out w q;go_simp;try with_reducible rfl)
  refine layy ?_;refine' tkL 2 rfl ?h2_3 ?_
  case h2_3=>(intro w q;obtain ⟨m7',v0',v1',hl⟩:=PR38.out w q;go_simp;try with_reducible rfl)
  refine layy ?_;refine' tkL 3 rfl ?h3_4 ?_
  case h3_4=>(intro w q;obtain ⟨m7',v0',v1',hl⟩:=PR38.out w q;go_simp;try with_reducible rfl)
  refine layy ?_;refine' tkL 4 rfl ?h4_5 ?_
  case h4_5=>(intro w q;obtain ⟨m7',v0',v1',hl⟩:=PR38.out w q;go_simp;try with_reducible rfl)
  refine layy ?_;refine' tkL 5 rfl ?h5_6 ?_
  case h5_6=>(intro w q;obtain ⟨m7',v0',v1',hl⟩:=PR38.out w q;go_simp;try with_reducible rfl)
  refine layy ?_;refine' tkL 6 rfl ?h6_7 ?_
  case h6_7=>(intro w q;obtain ⟨m7',v0',v1',hl⟩:=PR38.out w q;go_simp;try with_reducible rfl)
  refine layy ?_;refine' tkL 7 rfl ?h7_8 ?_
  case h7_8=>(intro w q;obtain ⟨m7',v0',v1',hl⟩:=PR38.out w q;go_simp;try with_reducible rfl)
  refine layy ?_;refine' tkL 8 rfl ?h8_9 ?_
  case h8_9=>(intro w q;obtain ⟨m7',v0',v1',hl⟩:=PR38.out w q;go_simp;try with_reducible rfl)
  refine layy ?_;refine' tkL 9 rfl ?h9_10 ?_
  case h9_10=>(intro w q;obtain ⟨m7',v0',v1',hl⟩:=PR38.out w q;go_simp;try with_reducible rfl)
  refine layy ?_;refine' tkL 10 rfl ?h10_11 ?_
  case h10_11=>(intro w q;obtain ⟨m7',v0',v1',hl⟩:=PR38.out w q;go_simp;try with_reducible rfl)
  refine layy ?_;refine wpAnyR_done (by kernel_rfl) ?_ _;intro x1 _ Ex1
  go_wp2_with (go_at_call 198;refine (NE.out _).mono ?_;rintro e w1 ⟨rfl,hb1⟩;obtain ⟨hc1,hf1,hs1⟩:=hb1.cells)
  go_returns;have EX:=E0.out.trans (Ex1.trans hb1);exact ⟨rfl,pe,ce,pn,cn,H.out.ext' EX,But.ofExt EX,fun b hb=>.inl hb⟩
set_option maxRecDepth 100000 in
set_option maxHeartbeats 8000000 in
theorem mkEnd_new {wb w:World} {i:Mkr} {E:List (Int × Int)} {N:List (Int × List Int)} {pe pn:Option Addr} {ce cn:Nat} {K:List (Nat × Nat)} (h:MkSt wb w i E N pe ce pn cn K) {v:Int × Int} (hv:okV v) (hj:E.idxOf? v=none) (hjl:E.length ≤ 100000) :
    Calls Tryz.prog 197 #[.pointer (some ⟨i.gm,0,none⟩),.agg #[.int .u8 v.1,.int .i64 v.2]] w (MkPost wb w i (i.dyn pe pn) (-1-(E.length:Int)) (E ++ [v]) N K):=by
  have H:=Lib.hid h;have LK:=Lib.hid (fun W (hE:Ext w W)=>by have:=(h.e.em.ext hE).lookOk keyV (t:=189) Tryz.underlying189 hv;rw [hj] at this;exact this);have PU:=Lib.hid (fun W (hE:Ext w W)=>(h.e.em.ext hE).put keyV (t:=189) Tryz.underlying189 hv (by omega) (List.idxOf?_eq_none_iff.1 hj));have c7:=h.c.c7;have z7:=cell_lt c7;have c4:=h.c.c4;obtain ⟨ne,hne⟩:∃ ne,E.length=ne:=⟨_,rfl⟩
  have HNE:=Lib.hid hne;rw [hne] at PU c4 hjl ⊢;have NE:=Lib.hid (fun W=>nEnd2 (w:=W) (ne:Int) (by omega) (by omega));clear h hj hne;unfold encV at LK PU;obtain ⟨f,n⟩:=v;simp only [Option.isSome_none] at LK PU;simp only at *;go_enter Tryz.func197,Tryz.ntmps197;go_upto_region 1 with fail
  refine cut_world (F:=fun W=>Hid (Ext w W) ∧ W.cell? ⟨w.heap.size,0,none⟩=some (.int .u8 f) ∧ W.cell? ⟨w.heap.size,1,none⟩=some (.int .i64 n)) ⟨Lib.hid (exx),by go_simp,by go_simp⟩ ?_;intro w0 ⟨E0,v0,v1⟩;have GV:=Lib.hid (show w.heap.size ≤ w.heap.size from Nat.le_refl _);generalize hgv:w.heap.size=gv at v0 v1 GV ⊢;have HGV:=Lib.hid hgv;clear hgv;have zv:=cell_lt v0;have m7:=(E0.out.cell z7 7).trans c7;have m4:=(E0.out.cell z7 4).trans c4;have zm:=cell_lt m7;have mixed:Tryz.prog.follows .mixedOrders=true:=by kernel_rfl
  have PR39:=Lib.hid (fun (ww:World) (hSw:Ext w0 ww)=>And.intro ((hSw.cell zm 7).trans m7) (And.intro ((hSw.cell zv 0).trans v0) (And.intro ((hSw.cell zv 1).trans v1) (LK.out _ (E0.out.trans hSw)))));refine wp_region_seq (S:=fun W=>Ext w0 W) (R:=Ext) (by kernel_rfl) Ext.refl ?_ ?_
  · exact exx
  refine' tkL 0 rfl ?h0_12 ?_
  case h0_12=>(intro w q;obtain ⟨m7',v0',v1',hl⟩:=PR39.out w q;go_simp;try with_reducible rfl)
  refine layy ?_;refine' tkL 1 rfl ?h1_13 ?_
  case h1_13=>(intro w q;obtain ⟨m7',v0',v1',hl⟩:=PR39.out w q;go_simp;try with_reducible rfl)
  refine layy ?_;refine' tkL 2 rfl ?h2_14 ?_
  case h2_14=>(intro w q;obtain ⟨m7',v0',v1',hl⟩:=PR39.out w q;go_simp;try with_reducible rfl)
  refine layy ?_;refine' tkL 3 rfl ?h3_15 ?_
  case h3_15=>(intro w q;obtain ⟨m7',v0',v1',hl⟩:=PR39.out w q;go_simp;try with_reducible rfl)
  refine layy ?_;refine' tkL 4 rfl ?h4_16 ?_
  case h4_16=>(intro w q;obtain ⟨m7',v0',v1',hl⟩:=PR39.out w q;go_simp;try with_reducible rfl)
  refine layy ?_;refine' tkL 5 rfl ?h5_17 ?_
  case h5_17=>(intro w q;obtain ⟨m7',v0',v1',hl⟩:=PR39.out w q;go_simp;try with_reducible rfl)
  refine layy ?_;refine' tkL 6 rfl ?h6_18 ?_
  case h6_18=>(intro w q;obtain ⟨m7',v0',v1',hl⟩:=PR39.out w q;go_simp;try with_reducible rfl)
  refine layy ?_;refine' tkL 7 rfl ?h7_19 ?_
  case h7_19=>(intro w q;obtain ⟨m7',v0',v1',hl⟩:=PR39.out w q;go_simp;try with_reducible rfl)
  refine layy ?_;refine' tkL 8 rfl ?h8_20 ?_
  case h8_20=>(intro w q;obtain ⟨m7',v0',v1',hl⟩:=PR39.out w q;go_simp;try with_reducible rfl)
  refine layy ?_;refine' tkL 9 rfl ?h9_21 ?_
  case h9_21=>(intro w q;obtain ⟨m7',v0',v1',hl⟩:=PR39.out w q;go_simp;try with_reducible rfl)
  refine layy ?_;refine' tkL 10 rfl ?h10_22 ?_
  case h10_22=>(intro w q;obtain ⟨m7',v0',v1',hl⟩:=PR39.out w q;go_simp;try with_reducible rfl)
  refine layy ?_;refine wpAnyR_done (by kernel_rfl) ?_ _;intro x1 _ Ex1;have E1:=Lib.hid (E0.out.trans Ex1);have v01:=(Ex1.cell zv 0).trans v0;have v11:=(Ex1.cell zv 1).trans v1;have m71:=(Ex1.cell zm 7).trans m7;have m41:=(Ex1.cell zm 4).trans m4;have zv1:=cell_lt v01;have zm1:=cell_lt m71;clear v0 v1 m7 m4 zv zm c7 c4 Ex1 E0;go_upto_region 4 with fail
  refine wp_region_any (by kernel_rfl) ?_;have PR40:=Lib.hid (fun (ww:World) (hSw:Ext x1 ww)=>And.intro ((hSw.cell zm1 7).trans m71) (And.intro ((hSw.cell zv1 0).trans v01) ((hSw.cell zv1 1).trans v11)));refine wpAny_to_X (S:=fun W=>Ext x1 W) (R:=Ext) 6 6 Ext.refl ?_ ?_ (by rfl)
  · exact Ext.drew exx
  refine' tkY 0 rfl ?h0_23 ?_
  case h0_23=>(intro w q;obtain ⟨m7',v0',v1'⟩:=PR40.out w q;go_simp;try with_reducible rfl)
  refine layy ?_;refine' tkY 1 rfl ?h1_24 ?_
  case h1_24=>(intro w q;obtain ⟨m7',v0',v1'⟩:=PR40.out w q;go_simp;try with_reducible rfl)
  refine layy ?_;refine' tkY 2 rfl ?h2_25 ?_
  case h2_25=>(intro w q;obtain ⟨m7',v0',v1'⟩:=PR40.out w q;go_simp;try with_reducible rfl)
  refine layy ?_;refine' tkY 3 rfl ?h3_26 ?_
  case h3_26=>(intro w q;obtain ⟨m7',v0',v1'⟩:=PR40.out w q;go_simp;try with_reducible rfl)
  refine layy ?_;refine' tkY 4 rfl ?h4_27 ?_
  case h4_27=>(intro w q;obtain ⟨m7',v0',v1'⟩:=PR40.out w q;go_simp;try with_reducible rfl)
  refine layy ?_;refine' tkY 5 rfl ?h5_28 ?_
  case h5_28=>(intro w q;obtain ⟨m7',v0',v1'⟩:=PR40.out w q;go_simp;try with_reducible rfl)
  refine layy ?_;refine wpAnyX_done (by kernel_rfl) ?_;intro x2 _ Ex2;simp only [List.drop_succ_cons,List.drop_zero];have E2:=Lib.hid (E1.out.trans Ex2);have v02:=(Ex2.cell zv1 0).trans v01;have v12:=(Ex2.cell zv1 1).trans v11;have m72:=(Ex2.cell zm1 7).trans m71;have m42:=(Ex2.cell zm1 4).trans m41;obtain ⟨w3,hup,hm3,ht3⟩:=PU.out x2 E2.out;have N2:=Lib.hid (H.out.ext' E2.out);have B3:But [i.ge] x2 w3:=(But.refl _ _).turned ht3 (.inl (by simp));have gvx:gv ∉ [i.ge]:=fun hm=>by have:=(H.out.lo i.ge (.inl (MkSt.in_e _ _ _))).2;rw [HGV.out] at this;rw [List.mem_singleton.1 hm] at this;omega
  have gmx:i.gm ∉ [i.ge]:=by simpa using H.out.nd.1
  have v03:=(B3.cell (cell_lt v02) gvx 0).trans v02;have v13:=(B3.cell (cell_lt v02) gvx 1).trans v12;have m43:=(B3.cell (cell_lt m72) gmx 4).trans m42;have m73:=(B3.cell (cell_lt m72) gmx 7).trans m72;have ER:=Lib.hid (N2.out.e.er.but B3 (fun b o e hm=>(N2.out.ndp b (mem_blk e)).2.1 (List.mem_singleton.1 hm)));have fz4:=(B3.frozen (cell_lt m72) gmx 4).trans (N2.out.c.z 4);have HB3:=Lib.hid B3;have HM3:=Lib.hid hm3;clear v01 v11 m71 m41 zv1 zm1 v02 v12 m72 m42 Ex2 ht3 gvx gmx B3 hm3;go_upto_region 5 with fail
  clear hup;refine wp_region_any (by kernel_rfl) ?_;refine wpAny_to_X (S:=(fun W:World=>W.cell? ⟨gv,0,none⟩=some (.int .u8 f) ∧ W.cell? ⟨gv,1,none⟩=some (.int .i64 n) ∧ W.cell? ⟨i.gm,4,none⟩=some (.slice pe ne ce))) (R:=Eq) 12 12 (fun _=>rfl) (by exact ⟨v03,v13,m43⟩) ?_ (by rfl);refine' tkE 0 rfl ?hy0_29 ?_
  case hy0_29=>(intro w _;go_simp;try with_reducible rfl)
  refine layy ?_;refine' tkE 1 rfl ?hy1_30 ?_
  case hy1_30=>(intro w _;go_simp;try with_reducible rfl)
  refine layy ?_;refine' tkE 2 rfl ?hy2_31 ?_
  case hy2_31=>(intro w _;go_simp;try with_reducible rfl)
  refine layy ?_;refine' tkE 3 rfl ?hy3_32 ?_
  case hy3_32=>(intro w _;go_simp;try with_reducible rfl)
  refine layy ?_;refine' tkE 4 rfl ?hy4_33 ?_
  case hy4_33=>(intro w _;go_simp;try with_reducible rfl)
  refine layy ?_;refine' tkE 5 rfl ?hy5_34 ?_
  case hy5_34=>(intro w hSw;(obtain ⟨q1,q2,q3⟩:=hSw);go_simp;try with_reducible rfl)
  refine layy ?_;refine' tkE 6 rfl ?hy6_35 ?_
  case hy6_35=>(intro w hSw;(obtain ⟨q1,q2,q3⟩:=hSw);go_simp;try with_reducible rfl)
  refine layy ?_;have W3:=Lib.hid (show Ext w3 (World.drew w3) from Ext.drew (Ext.refl w3));change wpAnyX _ _ _ _ _ _ _ _ _ _ _ (World.drew w3);have vd0:=(W3.out.cell (cell_lt v03) 0).trans v03;have vd1:=(W3.out.cell (cell_lt v03) 1).trans v13;have md4:=(W3.out.cell (cell_lt m43) 4).trans m43;generalize World.drew w3=wd at W3 vd0 vd1 md4 ⊢;refine wpAnyX_fork [7] (by kernel_rfl) (by simp) (by simp) ?_;intro i7 hi7;obtain rfl:i7=7:=by simpa using hi7
  have A4:Ext wd (wd.alloc (.cells #[.int .u8 f,.int .i64 n] 43)):=Ext.alloc (Ext.refl wd) _;have va0:=(A4.cell (cell_lt vd0) 0).trans vd0;have va1:=(A4.cell (cell_lt vd0) 1).trans vd1;have ma4:=(A4.cell (cell_lt md4) 4).trans md4;have e0:(wd.alloc (.cells #[.int .u8 f,.int .i64 n] 43)).cell? ⟨wd.heap.size,0,none⟩=some (.int .u8 f):=by go_simp
  have e1:(wd.alloc (.cells #[.int .u8 f,.int .i64 n] 43)).cell? ⟨wd.heap.size,1,none⟩=some (.int .i64 n):=by go_simp
  refine wpOp_value (i:=7) (v:=.slice (some ⟨wd.heap.size,0,none⟩) 1 1) (w'':=wd.alloc (.cells #[.int .u8 f,.int .i64 n] 43)) rfl (by rfl) (by go_simp) ⟨⟨va0,va1,ma4⟩, ?_⟩;refine layy ?_;have W4:=Lib.hid (W3.out.trans A4);clear v03 v13 m43 m73 vd0 vd1 md4 A4;generalize wd.heap.size=gt at e0 e1 ⊢;generalize wd.alloc (.cells #[.int .u8 f,.int .i64 n] 43)=w4 at *;refine wpAnyX_fork [8] (by kernel_rfl) (by simp) (by simp) ?_;intro i8 hi8;obtain rfl:i8=8:=by simpa using hi8
  refine wpOp_append_N (i:=8) (.tmp 35) (.tmp 37) 46 43 rfl rfl (by rfl) (z:=.agg #[.int .u8 0,.int .i64 0]) (n:=2) (bytes:=16) Tryz.underlying46 (by kernel_rfl) rfl (by decide) (by decide) (m:=ne) (by rw [List.length_map,HNE.out]) rfl rfl (ER.out.ext W4.out) (y:=endC (f,n)) rfl (cells2 e0 e1) (by simp [endC,Value.oneCell']) (by omega) ?_;intro g cap w5 row hR hG hrow hg hlt;have ge4:i.gm ∉ blk pe:=fun hm=>(N2.out.ndp _ hm).1 rfl
  have k5:But (blk pe) w4 w5:=⟨hG.os,hG.tape,hG.output,hG.size,fun j hj hn=>hG.block j hj fun e=>hn (by rw [hrow j e.symm];simp [blk])⟩
  have gve:gv ∉ blk pe:=fun hm=>by have:=(H.out.lo _ (.inl (MkSt.in_pe _ _ _ hm))).2;rw [HGV.out] at this;omega
  have v05:=(k5.cell (cell_lt va0) gve 0).trans va0;have v15:=(k5.cell (cell_lt va0) gve 1).trans va1;have m45:=(k5.cell (cell_lt ma4) ge4 4).trans ma4;have fz5:=(k5.frozen (cell_lt ma4) ge4 4).trans ((W4.out.frozen (by have:=HB3.out.size;have:=(N2.out.lo i.gm (.inl (MkSt.in_m _ _ _))).2;omega) 4).trans fz4);have NB:=Lib.hid (N2.out.end_ (v:=(f,n)) (HB3.out.trans (But.ofExt W4.out)) (HM3.out.ext W4.out) hR hG hrow hg hlt);rw [HNE.out] at NB;refine ⟨⟨v05,v15,m45⟩, ?_⟩;refine layy ?_;clear hR hG hrow hg hlt k5 va0 va1 ma4 e0 e1 ge4 gve
  skip
  refine' tkE 9 rfl ?hy9_36 ?_
  case hy9_36=>(intro w _;go_simp;try with_reducible rfl)
  refine layy ?_;refine' tkE 10 rfl ?hy10_37 ?_
  case hy10_37=>(intro w _;go_simp;try with_reducible rfl)
  refine layy ?_;refine' tkE 11 rfl ?hy11_38 ?_
  case hy11_38=>(intro w _;go_simp;try with_reducible rfl)
  refine layy ?_;refine wpAnyX_done (by kernel_rfl) ?_;intro w9 e9 _;subst e9;simp only [List.drop_succ_cons,List.drop_zero]
  go_wp2_with (go_at_call 198;refine (NE.out _).mono ?_;rintro e w9 ⟨rfl,hb9⟩;obtain ⟨hc9,hf9,hs9⟩:=hb9.cells)
  go_returns;obtain ⟨N6,B6,GI⟩:=NB.out;refine ⟨rfl,_,_,_,_,N6.ext' hb9, ?_, ?_⟩
  · have b1:But (i.dyn pe pn) w x2:=But.ofExt E2.out;exact (b1.trans (B6.mono (l':=i.dyn pe pn) (fun x hx=>by
     rcases List.mem_cons.1 hx with rfl | hx
     · exact MkSt.in_m _ _ _
     · rcases List.mem_cons.1 hx with rfl | hx
       · exact MkSt.in_e _ _ _
       · exact MkSt.in_pe _ _ _ hx))).trans (But.ofExt hb9)
  · intro b hb;have l2:=E2.out.le;simp only [Mkr.dyn,blk,List.mem_cons,List.mem_append,List.not_mem_nil,or_false] at hb
    rcases hb with hb | hb | hb | hb | hb
    · exact .inl (by rw [hb];exact MkSt.in_m _ _ _)
    · exact .inl (by rw [hb];exact MkSt.in_e _ _ _)
    · exact .inl (by rw [hb];exact MkSt.in_n _ _ _)
    · rw [hb]
      rcases GI with h | h
      · exact .inl (MkSt.in_pe _ _ _ h)
      · exact .inr (by omega)
    · exact .inl (MkSt.in_pn _ _ _ hb)
theorem mkNode1 {w:World} {gb m:Nat} {p:Option Addr} {c:Nat} {ks:List Int} (hb:w.cell? ⟨gb,0,none⟩=some (.slice p ks.length c)) (hs:SliceAt w p c ks) (h0:0 < ks.length) (x:Int) :
    Calls Tryz.prog 216 #[.int .i64 x,.pointer (some ⟨gb,0,none⟩)] w fun e w'=>e = .returned (.bool (x == ks.headD 0)) ∧ Ext w w':=by
  obtain ⟨b,o,rfl,hb',hc⟩:=hs.cells h0;obtain ⟨k0,hk⟩:=rd_get (l:=ks) (j:=0) h0;have g0:=hc 0 k0 hk;have e:ks.headD 0=k0:=by
   cases ks with
   | nil=>simp at h0
   | cons a r=>simpa [Hp.rd] using hk
  rw [e];have hle:=hs.le;have hcap:=hs.cap;have tp:decide ((0:Int) < (ks.length:Int))=true:=decide_eq_true (by omega);clear e hk hc hs;generalize ks.length=n at *;rw [Nat.add_zero] at g0;go_enter Tryz.func216,Tryz.ntmps216
  go_wp2_with fail
  go_returns;exact ⟨rfl,exx⟩
theorem mkAll {w:World} {g0 c0:Nat} {ks:List Int} (hs:SliceAt w (some ⟨g0,0,none⟩) c0 ks) (h0:0 < ks.length) {b:Bool} (hf:Nd.flat ks=b) (t:TypeId) (W:World) (hE:Ext (w.alloc (.cells #[.slice (some ⟨g0,0,none⟩) ks.length c0] t)) W) :
    Calls Tryz.prog 189 #[.slice (some ⟨g0,0,none⟩) ks.length c0,.func (.func 216) #[] #[.pointer (some ⟨w.heap.size,0,none⟩)]] W fun e w'=>e = .returned (.bool b) ∧ Ext W w':=by
  have c1:(w.alloc (.cells #[.slice (some ⟨g0,0,none⟩) ks.length c0] t)).cell? ⟨w.heap.size,0,none⟩=some (.slice (some ⟨g0,0,none⟩) ks.length c0):=by go_simp
  have EE:Ext w (w.alloc (.cells #[.slice (some ⟨g0,0,none⟩) ks.length c0] t)):=Ext.alloc (Ext.refl w) _;refine nAll (is:=fun k=>k == ks.headD 0) (first:=#[]) (enters_of Tryz.func216 (by kernel_rfl) rfl) (hs.ext (EE.trans hE)) (fun j x _ _ W' hW=>?_) hf;exact mkNode1 (m:=0) ((hW.cell (Nat.lt_of_lt_of_le (cell_lt c1) hE.le) 0).trans ((hE.cell (cell_lt c1) 0).trans c1)) (hs.ext ((EE.trans hE).trans hW)) h0 x
set_option maxHeartbeats 4000000 in
theorem mkNode_flat {w:World} {gm g0 c0:Nat} {ks:List Int} {c:Int} (hs:SliceAt w (some ⟨g0,0,none⟩) c0 ks) (h0:0 < ks.length) (hf:Nd.flat ks=true) :
    Calls Tryz.prog 199 #[.pointer (some ⟨gm,0,none⟩),.int .i64 c,.slice (some ⟨g0,0,none⟩) ks.length c0] w fun e w'=>e = .returned (.int .i64 (ks.headD 0)) ∧ Ext w w':=by
  have AL:=Lib.hid (fun t W hE=>mkAll hs h0 hf t W hE);obtain ⟨b,o,e0,hb',hc⟩:=hs.cells h0
  cases e0
  obtain ⟨k0,hk⟩:=rd_get (l:=ks) (j:=0) h0;have q0:=hc 0 k0 hk;have e:ks.headD 0=k0:=by
   cases ks with
   | nil=>simp at h0
   | cons a r=>simpa [Hp.rd] using hk
  rw [e];have hle:=hs.le;have hcap:=hs.cap;have tp:decide ((0:Int) < (ks.length:Int))=true:=decide_eq_true (by omega);have zq:=cell_lt q0;clear e hk hc hs hf;generalize ks.length=n at *;rw [Nat.add_zero] at q0;go_enter Tryz.func199,Tryz.ntmps199
  go_wp2_with (go_at_call 189;refine (AL.out _ _ (exx)).mono ?_;rintro e w1 ⟨rfl,hb1⟩;obtain ⟨hc1,hf1,hs1⟩:=hb1.cells;have hz1_0:w.heap.size < w1.heap.size:=(by have h:=hb1.le;(try simp at h);omega);have hc1_0:=hb1.cell (b:=w.heap.size) (by first | omega | (simp;done) | (simp;omega));have hf1_0:=hb1.frozen (b:=w.heap.size) (by first | omega | (simp;done) | (simp;omega)))
  go_returns;exact ⟨rfl,exx⟩
theorem key_copied {w:World} {cb gs os cp:Nat} {t:Int} {fs:List Int} (hg:w.heap[cb]? = some (.cells (ints (t :: List.replicate 12 0)).toArray 204 (0,0))) (hs:SliceAt w (some ⟨gs,os,none⟩) cp fs) (h0:0 < fs.length) (h12:fs.length ≤ 12) :
    ∃ x,(∀ ty,(Builtin.copy_ #[22,22] ty #[.slice (some ⟨cb,1,none⟩) 12 12,.slice (some ⟨gs,os,none⟩) fs.length cp]).run Tryz.prog w = .ok (goInt (fs.length:Nat)) x) ∧ x.heap[cb]? = some (.cells (ints (t :: (fs ++ List.replicate (12-fs.length) 0))).toArray 204 (0,0)) ∧ But [cb] w x:=by
  obtain ⟨b,o,e,hb,hc⟩:=hs.cells h0
  cases e
  refine ⟨w.setRow cb (ints (t :: (fs ++ List.replicate (12-fs.length) 0))).toArray,fun ty=>?_,setRow_heap w cb _ _ _ _ hg,(But.refl _ _).setRow (.inl (by simp)) _⟩;have hm:Nat.min fs.length 12=fs.length:=Nat.min_eq_left h12;have:=run_copy_rowK (P:=Tryz.prog) w 22 22 ty 3 1 cb 1 12 12 ⟨gs,os,none⟩ fs.length cp _ 204 (ints fs) Tryz.underlying22 (by kernel_rfl) hg (by rw [hm];simp [ints]) (fun j v hj=>by
   rw [Addr.add_lit];obtain ⟨hj1,hj2⟩:=List.getElem?_eq_some_iff.1 hj;have hj3:j < fs.length:=by simpa [ints] using hj1
   rw [hc j fs[j] (List.getElem?_eq_getElem hj3),← hj2];simp [ints]) (by simp [ints];omega) (fun v hv=>by
   obtain ⟨x,_,rfl⟩:=List.mem_map.1 hv;rfl)
  have e:((ints (t :: List.replicate 12 0)).toArray.toList.take 1 ++ ints fs ++ (ints (t :: List.replicate 12 0)).toArray.toList.drop (1+(ints fs).length))=ints (t :: (fs ++ List.replicate (12-fs.length) 0)):=by
   rw [List.toList_toArray,ints_length,Nat.add_comm 1];show [Value.int .i64 t] ++ ints fs ++ List.drop fs.length (ints (List.replicate 12 0))=Value.int .i64 t :: ints (fs ++ List.replicate (12-fs.length) 0);unfold ints;rw [List.map_append,List.map_replicate,List.map_replicate,List.drop_replicate,List.append_assoc];rfl
  rw [hm,e] at this;exact this
set_option maxRecDepth 100000 in
set_option maxHeartbeats 16000000 in
theorem mkNode_old {wb w:World} {i:Mkr} {E:List (Int × Int)} {N:List (Int × List Int)} {pe pn:Option Addr} {ce cn g0 c0 j:Nat} {K:List (Nat × Nat)} {c:Int} {ks:List Int} (h:MkSt wb w i E N pe ce pn cn K) (hs:SliceAt w (some ⟨g0,0,none⟩) c0 ks) (h0:wb.heap.size ≤ g0 ∧ g0 < w.heap.size) (h2:g0 ∉ i.dyn pe pn) (hf:Nd.flat ks=false) (hl0:0 < ks.length) (hl1:ks.length ≤ 12)
    (hq:okN (keyQ (c,ks))) (hinj:∀ y ∈ N,keyQ y=keyQ (c,ks) → y=(c,ks)) (hj:N.idxOf? (c,ks)=some j) (hjl:j ≤ 1000000) :
    Calls Tryz.prog 199 #[.pointer (some ⟨i.gm,0,none⟩),.int .i64 c,.slice (some ⟨g0,0,none⟩) ks.length c0] w (MkPost wb w i (i.dyn pe pn) (j:Int) E N K):=by
  have HS:=Lib.hid hs;have AL:=Lib.hid (fun t W hE=>mkAll hs hl0 hf t W hE);have H:=Lib.hid h;have LK:=Lib.hid (fun W (hE:Ext w W)=>by have:=(h.n.nm.ext hE).lookOk keyN (t:=190) Tryz.underlying190 hq;rw [idxOf_map hinj,hj] at this;exact this);have c8:=h.c.c8;have c5:=h.c.c5;have z8:=cell_lt c8;have hk13:=hq.1;have HK2:=Lib.hid (show keyQ (c,ks)=c :: (ks ++ List.replicate (12-ks.length) 0) from rfl);have H0:=Lib.hid h0;have H2:=Lib.hid h2;have hml:0 < ks.length ∧ ks.length ≤ 12:=⟨hl0,hl1⟩
  clear h hs hf hinj hj hq h0 h2;obtain ⟨a0,a1,a2,a3,a4,a5,a6,a7,a8,a9,a10,a11,a12,hkl⟩:=list13 hk13;rw [hkl] at LK HK2 ;unfold encN at LK ;simp only [ints,List.map_cons,List.map_nil] at LK ;clear hkl hk13;go_enter Tryz.func199,Tryz.ntmps199;go_upto_region 4 with (go_at_call 189;refine (AL.out _ _ (exx)).mono ?_;rintro e w1 ⟨rfl,hb1⟩;obtain ⟨hc1,hf1,hs1⟩:=hb1.cells;have hz1_0:w.heap.size < w1.heap.size:=(by have h:=hb1.le;(try simp at h);omega);have hc1_0:=hb1.cell (b:=w.heap.size) (by first | omega | (simp;done) | (simp;omega));have hf1_0:=hb1.frozen (b:=w.heap.size) (by first | omega | (simp;done) | (simp;omega)))
  clear AL;have E10:Ext w (w1.alloc (.cells #[.int .i64 c,.int .i64 0,.int .i64 0,.int .i64 0,.int .i64 0,.int .i64 0,.int .i64 0,.int .i64 0,.int .i64 0,.int .i64 0,.int .i64 0,.int .i64 0,.int .i64 0] 204)):=exx;have hg10:(w1.alloc (.cells #[.int .i64 c,.int .i64 0,.int .i64 0,.int .i64 0,.int .i64 0,.int .i64 0,.int .i64 0,.int .i64 0,.int .i64 0,.int .i64 0,.int .i64 0,.int .i64 0,.int .i64 0] 204)).heap[w1.heap.size]? = some (.cells (ints (c :: List.replicate 12 0)).toArray 204 (0,0)):=by
   have:=World.alloc_heap_new w1 (.cells #[.int .i64 c,.int .i64 0,.int .i64 0,.int .i64 0,.int .i64 0,.int .i64 0,.int .i64 0,.int .i64 0,.int .i64 0,.int .i64 0,.int .i64 0,.int .i64 0,.int .i64 0] 204)
   simpa [ints] using this
  have y10:(w1.alloc (.cells #[.int .i64 c,.int .i64 0,.int .i64 0,.int .i64 0,.int .i64 0,.int .i64 0,.int .i64 0,.int .i64 0,.int .i64 0,.int .i64 0,.int .i64 0,.int .i64 0,.int .i64 0] 204)).cell? ⟨w.heap.size,0,none⟩=some (.slice (some ⟨g0,0,none⟩) ks.length c0):=by
   have k:Ext w1 (w1.alloc (.cells #[.int .i64 c,.int .i64 0,.int .i64 0,.int .i64 0,.int .i64 0,.int .i64 0,.int .i64 0,.int .i64 0,.int .i64 0,.int .i64 0,.int .i64 0,.int .i64 0,.int .i64 0] 204)):=Ext.alloc (Ext.refl _) _;have y9:w1.cell? ⟨w.heap.size,0,none⟩=some (.slice (some ⟨g0,0,none⟩) ks.length c0):=(hc1_0 0).trans (by go_simp);exact (k.cell (cell_lt y9) 0).trans y9
  have zcb:w.heap.size < w1.heap.size:=by have:=hb1.le;simp at this;omega
  have GY:=Lib.hid (show w.heap.size ≤ w.heap.size from Nat.le_refl _);clear hb1 hc1 hf1 hs1 hz1_0 hc1_0 hf1_0;generalize w1.heap.size=cb at *;generalize w1.alloc (.cells #[.int .i64 c,.int .i64 0,.int .i64 0,.int .i64 0,.int .i64 0,.int .i64 0,.int .i64 0,.int .i64 0,.int .i64 0,.int .i64 0,.int .i64 0,.int .i64 0,.int .i64 0] 204)=wt at *;have mixed:Tryz.prog.follows .mixedOrders=true:=by kernel_rfl
  have zy:=cell_lt y10;have EE10:=Lib.hid E10;refine wp_region_any (by kernel_rfl) ?_;have PR41:=Lib.hid (fun (ww:World) (hSw:Ext wt ww)=>(hSw.cell zy 0).trans y10);refine wpAny_to_X (S:=fun W=>Ext wt W) (R:=Ext) 3 3 Ext.refl ?_ ?_ (by rfl)
  · exact Ext.drew exx
  refine' tkY 0 rfl ?h0_1 ?_
  case h0_1=>(intro w q;obtain y10':=PR41.out w q;go_simp;try with_reducible rfl)
  refine layy ?_;refine' tkY 1 rfl ?h1_2 ?_
  case h1_2=>(intro w q;obtain y10':=PR41.out w q;go_simp;try with_reducible rfl)
  refine layy ?_;refine' tkY 2 rfl ?h2_3 ?_
  case h2_3=>(intro w q;obtain y10':=PR41.out w q;go_simp;try with_reducible rfl)
  refine layy ?_;refine wpAnyX_done (by kernel_rfl) ?_;intro x1 _ Ex1;simp only [List.drop_succ_cons,List.drop_zero];have hg11:x1.heap[cb]? = some (.cells (ints (c :: List.replicate 12 0)).toArray 204 (0,0)):=(Ex1.block _ (Array.getElem?_eq_some_iff.1 hg10).1).trans hg10;obtain ⟨x2,hcp,hg12,hb12⟩:=key_copied hg11 (HS.out.ext (EE10.out.trans Ex1)) hml.1 hml.2;rw [← HK2.out] at hg12;simp only [ints,List.map_cons,List.map_nil] at hg12;have QC:∀ (j:Nat) (v:Value),(#[.int .i64 a0,.int .i64 a1,.int .i64 a2,.int .i64 a3,.int .i64 a4,.int .i64 a5,.int .i64 a6,.int .i64 a7,.int .i64 a8,.int .i64 a9,.int .i64 a10,.int .i64 a11,.int .i64 a12]:Array Value)[j]? = some v → x2.cell? ⟨cb,j,none⟩=some v:=fun j v hv=>by simp only [World.cell?,hg12];exact hv
  have q0:=QC 0 _ rfl;have q1:=QC 1 _ rfl;have q2:=QC 2 _ rfl;have q3:=QC 3 _ rfl;have q4:=QC 4 _ rfl;have q5:=QC 5 _ rfl;have q6:=QC 6 _ rfl;have q7:=QC 7 _ rfl;have q8:=QC 8 _ rfl;have q9:=QC 9 _ rfl;have q10:=QC 10 _ rfl;have q11:=QC 11 _ rfl;have q12:=QC 12 _ rfl;have E2:=Lib.hid (But.toExt EE10.out (But.trans (But.ofExt (l:=[cb]) Ex1) hb12) (by simp;omega));have y12:=(hb12.cell (cell_lt ((Ex1.cell zy 0).trans y10)) (by simp;omega) 0).trans ((Ex1.cell zy 0).trans y10);have m82:=(E2.out.cell z8 8).trans c8;have m52:=(E2.out.cell z8 5).trans c5;clear hg10 y10 zy E10 EE10 hg11 hb12 Ex1 QC hg12 c8 c5 z8;go_upto_region 5 with fail
  clear hcp;have zk2:=cell_lt q0;have zy2:=cell_lt y12;have zm2:=cell_lt m82;have PR42:=Lib.hid (fun (ww:World) (hSw:Ext x2 ww)=>And.intro ((hSw.cell zm2 8).trans m82) (And.intro ((hSw.cell zk2 0).trans q0) (And.intro ((hSw.cell zk2 1).trans q1) (And.intro ((hSw.cell zk2 2).trans q2) (And.intro ((hSw.cell zk2 3).trans q3) (And.intro ((hSw.cell zk2 4).trans q4) (And.intro ((hSw.cell zk2 5).trans q5) (And.intro ((hSw.cell zk2 6).trans q6) (And.intro ((hSw.cell zk2 7).trans q7) (And.intro ((hSw.cell zk2 8).trans q8) (And.intro ((hSw.cell zk2 9).trans q9) (And.intro ((hSw.cell zk2 10).trans q10) (And.intro ((hSw.cell zk2 11).trans q11) (And.intro ((hSw.cell zk2 12).trans q12) (LK.out _ (E2.out.trans hSw))))))))))))))));refine wp_region_seq (S:=fun W=>Ext x2 W) (R:=Ext) (by kernel_rfl) Ext.refl ?_ ?_
  · exact exx
  refine' tkL 0 rfl ?h0_4 ?_
  case h0_4=>(intro w q;obtain ⟨m8',q0',q1',q2',q3',q4',q5',q6',q7',q8',q9',q10',q11',q12',hl⟩:=PR42.out w q;go_simp;try with_reducible rfl)
  refine layy ?_;refine' tkL 1 rfl ?h1_5 ?_
  case h1_5=>(intro w q;obtain ⟨m8',q0',q1',q2',q3',q4',q5',q6',q7',q8',q9',q10',q11',q12',hl⟩:=PR42.out w q;go_simp;try with_reducible rfl)
  refine layy ?_;refine' tkL 2 rfl ?h2_6 ?_
  case h2_6=>(intro w q;obtain ⟨m8',q0',q1',q2',q3',q4',q5',q6',q7',q8',q9',q10',q11',q12',hl⟩:=PR42.out w q;go_simp;try with_reducible rfl)
  refine layy ?_;refine' tkL 3 rfl ?h3_7 ?_
  case h3_7=>(intro w q;obtain ⟨m8',q0',q1',q2',q3',q4',q5',q6',q7',q8',q9',q10',q11',q12',hl⟩:=PR42.out w q;go_simp;try with_reducible rfl)
  refine layy ?_;refine' tkL 4 rfl ?h4_8 ?_
  case h4_8=>(intro w q;obtain ⟨m8',q0',q1',q2',q3',q4',q5',q6',q7',q8',q9',q10',q11',q12',hl⟩:=PR42.out w q;go_simp;try with_reducible rfl)
  refine layy ?_;refine' tkL 5 rfl ?h5_9 ?_
  case h5_9=>(intro w q;obtain ⟨m8',q0',q1',q2',q3',q4',q5',q6',q7',q8',q9',q10',q11',q12',hl⟩:=PR42.out w q;go_simp;try with_reducible rfl)
  refine layy ?_;refine' tkL 6 rfl ?h6_10 ?_
  case h6_10=>(intro w q;obtain ⟨m8',q0',q1',q2',q3',q4',q5',q6',q7',q8',q9',q10',q11',q12',hl⟩:=PR42.out w q;go_simp;try with_reducible rfl)
  refine layy ?_;refine' tkL 7 rfl ?h7_11 ?_
  case h7_11=>(intro w q;obtain ⟨m8',q0',q1',q2',q3',q4',q5',q6',q7',q8',q9',q10',q11',q12',hl⟩:=PR42.out w q;go_simp;try with_reducible rfl)
  refine layy ?_;refine' tkL 8 rfl ?h8_12 ?_
  case h8_12=>(intro w q;obtain ⟨m8',q0',q1',q2',q3',q4',q5',q6',q7',q8',q9',q10',q11',q12',hl⟩:=PR42.out w q;go_simp;try with_reducible rfl)
  refine layy ?_;refine' tkL 9 rfl ?h9_13 ?_
  case h9_13=>(intro w q;obtain ⟨m8',q0',q1',q2',q3',q4',q5',q6',q7',q8',q9',q10',q11',q12',hl⟩:=PR42.out w q;go_simp;try with_reducible rfl)
  refine layy ?_;refine' tkL 10 rfl ?h10_14 ?_
  case h10_14=>(intro w q;obtain ⟨m8',q0',q1',q2',q3',q4',q5',q6',q7',q8',q9',q10',q11',q12',hl⟩:=PR42.out w q;go_simp;try with_reducible rfl)
  refine layy ?_;refine wpAnyR_done (by kernel_rfl) ?_ _;intro x3 _ Ex3;have E3:=Lib.hid (E2.out.trans Ex3)
  go_wp2_with fail
  go_returns;exact ⟨rfl,pe,ce,pn,cn,H.out.ext' E3.out,But.ofExt E3.out,fun b hb=>.inl hb⟩
set_option maxRecDepth 100000 in
set_option maxHeartbeats 16000000 in
theorem mkNode_new {wb w:World} {i:Mkr} {E:List (Int × Int)} {N:List (Int × List Int)} {pe pn:Option Addr} {ce cn g0 c0:Nat} {K:List (Nat × Nat)} {c:Int} {ks:List Int} (h:MkSt wb w i E N pe ce pn cn K) (hs:SliceAt w (some ⟨g0,0,none⟩) c0 ks) (h0:wb.heap.size ≤ g0 ∧ g0 < w.heap.size) (h2:g0 ∉ i.dyn pe pn) (hf:Nd.flat ks=false) (hl0:0 < ks.length) (hl1:ks.length ≤ 12)
    (hq:okN (keyQ (c,ks))) (hinj:∀ y ∈ N,keyQ y=keyQ (c,ks) → y=(c,ks)) (hj:N.idxOf? (c,ks)=none) (hjl:N.length ≤ 100000) :
    Calls Tryz.prog 199 #[.pointer (some ⟨i.gm,0,none⟩),.int .i64 c,.slice (some ⟨g0,0,none⟩) ks.length c0] w (MkPost wb w i (i.dyn pe pn) (N.length:Int) E (N ++ [(c,ks)]) (K ++ [(g0,c0)])):=by
  have HS:=Lib.hid hs;have AL:=Lib.hid (fun t W hE=>mkAll hs hl0 hf t W hE);have H:=Lib.hid h;have LK:=Lib.hid (fun W (hE:Ext w W)=>by have:=(h.n.nm.ext hE).lookOk keyN (t:=190) Tryz.underlying190 hq;rw [idxOf_map hinj,hj] at this;exact this);have PU:=Lib.hid (fun W (hE:Ext w W)=>(h.n.nm.ext hE).put keyN (t:=190) Tryz.underlying190 hq (by rw [List.length_map];omega) (fun hm=>by
   obtain ⟨y,hy,e⟩:=List.mem_map.1 hm;exact List.idxOf?_eq_none_iff.1 hj (hinj y hy e ▸ hy)))
  have c8:=h.c.c8;have c5:=h.c.c5;have z8:=cell_lt c8;have hk13:=hq.1;have HK2:=Lib.hid (show keyQ (c,ks)=c :: (ks ++ List.replicate (12-ks.length) 0) from rfl);obtain ⟨nn,hnn⟩:∃ nn,N.length=nn:=⟨_,rfl⟩
  have HNN:=Lib.hid hnn;rw [List.length_map,hnn] at PU;rw [hnn] at c5 hjl ⊢;clear hnn;have H0:=Lib.hid h0;have H2:=Lib.hid h2;have hml:0 < ks.length ∧ ks.length ≤ 12:=⟨hl0,hl1⟩
  clear h hs hf hinj hj hq h0 h2;obtain ⟨a0,a1,a2,a3,a4,a5,a6,a7,a8,a9,a10,a11,a12,hkl⟩:=list13 hk13;rw [hkl] at LK HK2 PU;unfold encN at LK PU;simp only [ints,List.map_cons,List.map_nil] at LK PU;have HK2x:=Lib.hid hkl;clear hkl hk13;go_enter Tryz.func199,Tryz.ntmps199;go_upto_region 4 with (go_at_call 189;refine (AL.out _ _ (exx)).mono ?_;rintro e w1 ⟨rfl,hb1⟩;obtain ⟨hc1,hf1,hs1⟩:=hb1.cells;have hz1_0:w.heap.size < w1.heap.size:=(by have h:=hb1.le;(try simp at h);omega);have hc1_0:=hb1.cell (b:=w.heap.size) (by first | omega | (simp;done) | (simp;omega));have hf1_0:=hb1.frozen (b:=w.heap.size) (by first | omega | (simp;done) | (simp;omega)))
  clear AL;have E10:Ext w (w1.alloc (.cells #[.int .i64 c,.int .i64 0,.int .i64 0,.int .i64 0,.int .i64 0,.int .i64 0,.int .i64 0,.int .i64 0,.int .i64 0,.int .i64 0,.int .i64 0,.int .i64 0,.int .i64 0] 204)):=exx;have hg10:(w1.alloc (.cells #[.int .i64 c,.int .i64 0,.int .i64 0,.int .i64 0,.int .i64 0,.int .i64 0,.int .i64 0,.int .i64 0,.int .i64 0,.int .i64 0,.int .i64 0,.int .i64 0,.int .i64 0] 204)).heap[w1.heap.size]? = some (.cells (ints (c :: List.replicate 12 0)).toArray 204 (0,0)):=by
   have:=World.alloc_heap_new w1 (.cells #[.int .i64 c,.int .i64 0,.int .i64 0,.int .i64 0,.int .i64 0,.int .i64 0,.int .i64 0,.int .i64 0,.int .i64 0,.int .i64 0,.int .i64 0,.int .i64 0,.int .i64 0] 204)
   simpa [ints] using this
  have y10:(w1.alloc (.cells #[.int .i64 c,.int .i64 0,.int .i64 0,.int .i64 0,.int .i64 0,.int .i64 0,.int .i64 0,.int .i64 0,.int .i64 0,.int .i64 0,.int .i64 0,.int .i64 0,.int .i64 0] 204)).cell? ⟨w.heap.size,0,none⟩=some (.slice (some ⟨g0,0,none⟩) ks.length c0):=by
   have k:Ext w1 (w1.alloc (.cells #[.int .i64 c,.int .i64 0,.int .i64 0,.int .i64 0,.int .i64 0,.int .i64 0,.int .i64 0,.int .i64 0,.int .i64 0,.int .i64 0,.int .i64 0,.int .i64 0,.int .i64 0] 204)):=Ext.alloc (Ext.refl _) _;have y9:w1.cell? ⟨w.heap.size,0,none⟩=some (.slice (some ⟨g0,0,none⟩) ks.length c0):=(hc1_0 0).trans (by go_simp);exact (k.cell (cell_lt y9) 0).trans y9
  have zcb:w.heap.size < w1.heap.size:=by have:=hb1.le;simp at this;omega
  have GY:=Lib.hid (show w.heap.size ≤ w.heap.size from Nat.le_refl _);clear hb1 hc1 hf1 hs1 hz1_0 hc1_0 hf1_0;generalize w1.heap.size=cb at *;generalize w1.alloc (.cells #[.int .i64 c,.int .i64 0,.int .i64 0,.int .i64 0,.int .i64 0,.int .i64 0,.int .i64 0,.int .i64 0,.int .i64 0,.int .i64 0,.int .i64 0,.int .i64 0,.int .i64 0] 204)=wt at *;have mixed:Tryz.prog.follows .mixedOrders=true:=by kernel_rfl
  have zy:=cell_lt y10;have EE10:=Lib.hid E10;refine wp_region_any (by kernel_rfl) ?_;have PR43:=Lib.hid (fun (ww:World) (hSw:Ext wt ww)=>(hSw.cell zy 0).trans y10);refine wpAny_to_X (S:=fun W=>Ext wt W) (R:=Ext) 3 3 Ext.refl ?_ ?_ (by rfl)
  · exact Ext.drew exx
  refine' tkY 0 rfl ?h0_15 ?_
  case h0_15=>(intro w q;obtain y10':=PR43.out w q;go_simp;try with_reducible rfl)
  refine layy ?_;refine' tkY 1 rfl ?h1_16 ?_
  case h1_16=>(intro w q;obtain y10':=PR43.out w q;go_simp;try with_reducible rfl)
  refine layy ?_;refine' tkY 2 rfl ?h2_17 ?_
  case h2_17=>(intro w q;obtain y10':=PR43.out w q;go_simp;try with_reducible rfl)
  refine layy ?_;refine wpAnyX_done (by kernel_rfl) ?_;intro x1 _ Ex1;simp only [List.drop_succ_cons,List.drop_zero];have hg11:x1.heap[cb]? = some (.cells (ints (c :: List.replicate 12 0)).toArray 204 (0,0)):=(Ex1.block _ (Array.getElem?_eq_some_iff.1 hg10).1).trans hg10;obtain ⟨x2,hcp,hg12,hb12⟩:=key_copied hg11 (HS.out.ext (EE10.out.trans Ex1)) hml.1 hml.2;rw [← HK2.out] at hg12;simp only [ints,List.map_cons,List.map_nil] at hg12;have QC:∀ (j:Nat) (v:Value),(#[.int .i64 a0,.int .i64 a1,.int .i64 a2,.int .i64 a3,.int .i64 a4,.int .i64 a5,.int .i64 a6,.int .i64 a7,.int .i64 a8,.int .i64 a9,.int .i64 a10,.int .i64 a11,.int .i64 a12]:Array Value)[j]? = some v → x2.cell? ⟨cb,j,none⟩=some v:=fun j v hv=>by simp only [World.cell?,hg12];exact hv
  have q0:=QC 0 _ rfl;have q1:=QC 1 _ rfl;have q2:=QC 2 _ rfl;have q3:=QC 3 _ rfl;have q4:=QC 4 _ rfl;have q5:=QC 5 _ rfl;have q6:=QC 6 _ rfl;have q7:=QC 7 _ rfl;have q8:=QC 8 _ rfl;have q9:=QC 9 _ rfl;have q10:=QC 10 _ rfl;have q11:=QC 11 _ rfl;have q12:=QC 12 _ rfl;have E2:=Lib.hid (But.toExt EE10.out (But.trans (But.ofExt (l:=[cb]) Ex1) hb12) (by simp;omega));have y12:=(hb12.cell (cell_lt ((Ex1.cell zy 0).trans y10)) (by simp;omega) 0).trans ((Ex1.cell zy 0).trans y10);have m82:=(E2.out.cell z8 8).trans c8;have m52:=(E2.out.cell z8 5).trans c5;clear hg10 y10 zy E10 EE10 hg11 hb12 Ex1 QC hg12 c8 c5 z8;go_upto_region 5 with fail
  clear hcp;have zk2:=cell_lt q0;have zy2:=cell_lt y12;have zm2:=cell_lt m82;have PR44:=Lib.hid (fun (ww:World) (hSw:Ext x2 ww)=>And.intro ((hSw.cell zm2 8).trans m82) (And.intro ((hSw.cell zk2 0).trans q0) (And.intro ((hSw.cell zk2 1).trans q1) (And.intro ((hSw.cell zk2 2).trans q2) (And.intro ((hSw.cell zk2 3).trans q3) (And.intro ((hSw.cell zk2 4).trans q4) (And.intro ((hSw.cell zk2 5).trans q5) (And.intro ((hSw.cell zk2 6).trans q6) (And.intro ((hSw.cell zk2 7).trans q7) (And.intro ((hSw.cell zk2 8).trans q8) (And.intro ((hSw.cell zk2 9).trans q9) (And.intro ((hSw.cell zk2 10).trans q10) (And.intro ((hSw.cell zk2 11).trans q11) (And.intro ((hSw.cell zk2 12).trans q12) (LK.out _ (E2.out.trans hSw))))))))))))))));refine wp_region_seq (S:=fun W=>Ext x2 W) (R:=Ext) (by kernel_rfl) Ext.refl ?_ ?_
  · exact exx
  refine' tkL 0 rfl ?h0_18 ?_
  case h0_18=>(intro w q;obtain ⟨m8',q0',q1',q2',q3',q4',q5',q6',q7',q8',q9',q10',q11',q12',hl⟩:=PR44.out w q;go_simp;try with_reducible rfl)
  refine layy ?_;refine' tkL 1 rfl ?h1_19 ?_
  case h1_19=>(intro w q;obtain ⟨m8',q0',q1',q2',q3',q4',q5',q6',q7',q8',q9',q10',q11',q12',hl⟩:=PR44.out w q;go_simp;try with_reducible rfl)
  refine layy ?_;refine' tkL 2 rfl ?h2_20 ?_
  case h2_20=>(intro w q;obtain ⟨m8',q0',q1',q2',q3',q4',q5',q6',q7',q8',q9',q10',q11',q12',hl⟩:=PR44.out w q;go_simp;try with_reducible rfl)
  refine layy ?_;refine' tkL 3 rfl ?h3_21 ?_
  case h3_21=>(intro w q;obtain ⟨m8',q0',q1',q2',q3',q4',q5',q6',q7',q8',q9',q10',q11',q12',hl⟩:=PR44.out w q;go_simp;try with_reducible rfl)
  refine layy ?_;refine' tkL 4 rfl ?h4_22 ?_
  case h4_22=>(intro w q;obtain ⟨m8',q0',q1',q2',q3',q4',q5',q6',q7',q8',q9',q10',q11',q12',hl⟩:=PR44.out w q;go_simp;try with_reducible rfl)
  refine layy ?_;refine' tkL 5 rfl ?h5_23 ?_
  case h5_23=>(intro w q;obtain ⟨m8',q0',q1',q2',q3',q4',q5',q6',q7',q8',q9',q10',q11',q12',hl⟩:=PR44.out w q;go_simp;try with_reducible rfl)
  refine layy ?_;refine' tkL 6 rfl ?h6_24 ?_
  case h6_24=>(intro w q;obtain ⟨m8',q0',q1',q2',q3',q4',q5',q6',q7',q8',q9',q10',q11',q12',hl⟩:=PR44.out w q;go_simp;try with_reducible rfl)
  refine layy ?_;refine' tkL 7 rfl ?h7_25 ?_
  case h7_25=>(intro w q;obtain ⟨m8',q0',q1',q2',q3',q4',q5',q6',q7',q8',q9',q10',q11',q12',hl⟩:=PR44.out w q;go_simp;try with_reducible rfl)
  refine layy ?_;refine' tkL 8 rfl ?h8_26 ?_
  case h8_26=>(intro w q;obtain ⟨m8',q0',q1',q2',q3',q4',q5',q6',q7',q8',q9',q10',q11',q12',hl⟩:=PR44.out w q;go_simp;try with_reducible rfl)
  refine layy ?_;refine' tkL 9 rfl ?h9_27 ?_
  case h9_27=>(intro w q;obtain ⟨m8',q0',q1',q2',q3',q4',q5',q6',q7',q8',q9',q10',q11',q12',hl⟩:=PR44.out w q;go_simp;try with_reducible rfl)
  refine layy ?_;refine' tkL 10 rfl ?h10_28 ?_
  case h10_28=>(intro w q;obtain ⟨m8',q0',q1',q2',q3',q4',q5',q6',q7',q8',q9',q10',q11',q12',hl⟩:=PR44.out w q;go_simp;try with_reducible rfl)
  refine layy ?_;refine wpAnyR_done (by kernel_rfl) ?_ _;intro x3 _ Ex3;have E3:=Lib.hid (E2.out.trans Ex3);have m83:=(Ex3.cell zm2 8).trans m82;have m53:=(Ex3.cell zm2 5).trans m52;have y13:=(Ex3.cell zy2 0).trans y12;have r0:=(Ex3.cell zk2 0).trans q0;have r1:=(Ex3.cell zk2 1).trans q1;have r2:=(Ex3.cell zk2 2).trans q2;have r3:=(Ex3.cell zk2 3).trans q3;have r4:=(Ex3.cell zk2 4).trans q4;have r5:=(Ex3.cell zk2 5).trans q5;have r6:=(Ex3.cell zk2 6).trans q6;have r7:=(Ex3.cell zk2 7).trans q7;have r8:=(Ex3.cell zk2 8).trans q8;have r9:=(Ex3.cell zk2 9).trans q9;have r10:=(Ex3.cell zk2 10).trans q10;have r11:=(Ex3.cell zk2 11).trans q11;have r12:=(Ex3.cell zk2 12).trans q12;clear q0 q1 q2 q3 q4 q5 q6 q7 q8 q9 q10 q11 q12 m82 m52 y12 zk2 zy2 zm2 Ex3;have zk3:=cell_lt r0;have zy3:=cell_lt y13;have zm3:=cell_lt m83;go_upto_region 8 with fail
  refine wp_region_any (by kernel_rfl) ?_;have PR45:=Lib.hid (fun (ww:World) (hSw:Ext x3 ww)=>And.intro ((hSw.cell zm3 8).trans m83) (And.intro ((hSw.cell zk3 0).trans r0) (And.intro ((hSw.cell zk3 1).trans r1) (And.intro ((hSw.cell zk3 2).trans r2) (And.intro ((hSw.cell zk3 3).trans r3) (And.intro ((hSw.cell zk3 4).trans r4) (And.intro ((hSw.cell zk3 5).trans r5) (And.intro ((hSw.cell zk3 6).trans r6) (And.intro ((hSw.cell zk3 7).trans r7) (And.intro ((hSw.cell zk3 8).trans r8) (And.intro ((hSw.cell zk3 9).trans r9) (And.intro ((hSw.cell zk3 10).trans r10) (And.intro ((hSw.cell zk3 11).trans r11) ((hSw.cell zk3 12).trans r12))))))))))))));refine wpAny_to_X (S:=fun W=>Ext x3 W) (R:=Ext) 6 6 Ext.refl ?_ ?_ (by rfl)
  · exact Ext.drew exx
  refine' tkY 0 rfl ?h0_29 ?_
  case h0_29=>(intro w q;obtain ⟨m8',q0',q1',q2',q3',q4',q5',q6',q7',q8',q9',q10',q11',q12'⟩:=PR45.out w q;go_simp;try with_reducible rfl)
  refine layy ?_;refine' tkY 1 rfl ?h1_30 ?_
  case h1_30=>(intro w q;obtain ⟨m8',q0',q1',q2',q3',q4',q5',q6',q7',q8',q9',q10',q11',q12'⟩:=PR45.out w q;go_simp;try with_reducible rfl)
  refine layy ?_;refine' tkY 2 rfl ?h2_31 ?_
  case h2_31=>(intro w q;obtain ⟨m8',q0',q1',q2',q3',q4',q5',q6',q7',q8',q9',q10',q11',q12'⟩:=PR45.out w q;go_simp;try with_reducible rfl)
  refine layy ?_;refine' tkY 3 rfl ?h3_32 ?_
  case h3_32=>(intro w q;obtain ⟨m8',q0',q1',q2',q3',q4',q5',q6',q7',q8',q9',q10',q11',q12'⟩:=PR45.out w q;go_simp;try with_reducible rfl)
  refine layy ?_;refine' tkY 4 rfl ?h4_33 ?_
  case h4_33=>(intro w q;obtain ⟨m8',q0',q1',q2',q3',q4',q5',q6',q7',q8',q9',q10',q11',q12'⟩:=PR45.out w q;go_simp;try with_reducible rfl)
  refine layy ?_;refine' tkY 5 rfl ?h5_34 ?_
  case h5_34=>(intro w q;obtain ⟨m8',q0',q1',q2',q3',q4',q5',q6',q7',q8',q9',q10',q11',q12'⟩:=PR45.out w q;go_simp;try with_reducible rfl)
  refine layy ?_;refine wpAnyX_done (by kernel_rfl) ?_;intro x4 _ Ex4;simp only [List.drop_succ_cons,List.drop_zero];have E4:=Lib.hid (E3.out.trans Ex4);have m54:=(Ex4.cell zm3 5).trans m53;have y14:=(Ex4.cell zy3 0).trans y13;obtain ⟨w5,hup,hm5,ht5⟩:=PU.out x4 E4.out;have N4:=Lib.hid (H.out.ext' E4.out);have B5:But [i.gn] x4 w5:=(But.refl _ _).turned ht5 (.inl (by simp));have gyx:w.heap.size ∉ [i.gn]:=fun hm=>by have:=(H.out.lo i.gn (.inl (MkSt.in_n _ _ _))).2;rw [List.mem_singleton.1 hm] at this;omega
  have gmx:i.gm ∉ [i.gn]:=by simpa using H.out.nd.2.1
  have y15:=(B5.cell (cell_lt y14) gyx 0).trans y14;have m55:=(B5.cell (cell_lt m54) gmx 5).trans m54;have NR:=Lib.hid (N4.out.n.nr.but B5 (fun b o e hm=>(N4.out.ndn b (mem_blk e)).2.2.1 (List.mem_singleton.1 hm)));have fz5:=(B5.frozen (cell_lt m54) gmx 5).trans (N4.out.c.z 5);have HB5:=Lib.hid B5;have HM5:=Lib.hid hm5;have HX4:=Lib.hid (show w.heap.size ≤ x4.heap.size from E4.out.le);clear m83 m53 y13 r0 r1 r2 r3 r4 r5 r6 r7 r8 r9 r10 r11 r12 zk3 zy3 zm3 m54 y14 Ex4 ht5 gyx gmx B5 hm5;go_upto_region 9 with fail
  clear hup;refine wp_region_any (by kernel_rfl) ?_;refine wpAny_to_X (S:=(fun W:World=>W.cell? ⟨w.heap.size,0,none⟩=some (.slice (some ⟨g0,0,none⟩) ks.length c0) ∧ W.cell? ⟨i.gm,5,none⟩=some (.slice pn nn cn))) (R:=Eq) 14 14 (fun _=>rfl) (by exact ⟨y15,m55⟩) ?_ (by rfl);refine' tkE 0 rfl ?hy0_35 ?_
  case hy0_35=>(intro w _;go_simp;try with_reducible rfl)
  refine layy ?_;refine' tkE 1 rfl ?hy1_36 ?_
  case hy1_36=>(intro w _;go_simp;try with_reducible rfl)
  refine layy ?_;refine' tkE 2 rfl ?hy2_37 ?_
  case hy2_37=>(intro w _;go_simp;try with_reducible rfl)
  refine layy ?_;refine' tkE 3 rfl ?hy3_38 ?_
  case hy3_38=>(intro w _;go_simp;try with_reducible rfl)
  refine layy ?_;refine' tkE 4 rfl ?hy4_39 ?_
  case hy4_39=>(intro w _;go_simp;try with_reducible rfl)
  refine layy ?_;refine' tkE 5 rfl ?hy5_40 ?_
  case hy5_40=>(intro w hSw;(obtain ⟨s1,s2⟩:=hSw);go_simp;try with_reducible rfl)
  refine layy ?_;refine' tkE 6 rfl ?hy6_41 ?_
  case hy6_41=>(intro w _;go_simp;try with_reducible rfl)
  refine layy ?_;refine' tkE 7 rfl ?hy7_42 ?_
  case hy7_42=>(intro w hSw;(obtain ⟨s1,s2⟩:=hSw);go_simp;try with_reducible rfl)
  refine layy ?_;refine' tkE 8 rfl ?hy8_43 ?_
  case hy8_43=>(intro w _;go_simp;try with_reducible rfl)
  refine layy ?_;have W5:=Lib.hid (show Ext w5 (World.drew w5) from Ext.drew (Ext.refl w5));change wpAnyX _ _ _ _ _ _ _ _ _ _ _ (World.drew w5);have yd:=(W5.out.cell (cell_lt y15) 0).trans y15;have md:=(W5.out.cell (cell_lt m55) 5).trans m55;generalize World.drew w5=wd at W5 yd md ⊢;refine wpAnyX_fork [9] (by kernel_rfl) (by simp) (by simp) ?_;intro i9 hi9;obtain rfl:i9=9:=by simpa using hi9
  have A6:Ext wd (wd.alloc (.cells #[.int .i64 c,.slice (some ⟨g0,0,none⟩) ks.length c0] 41)):=Ext.alloc (Ext.refl wd) _;have ya:=(A6.cell (cell_lt yd) 0).trans yd;have ma:=(A6.cell (cell_lt md) 5).trans md;have e0:(wd.alloc (.cells #[.int .i64 c,.slice (some ⟨g0,0,none⟩) ks.length c0] 41)).cell? ⟨wd.heap.size,0,none⟩=some (.int .i64 c):=by go_simp
  have e1:(wd.alloc (.cells #[.int .i64 c,.slice (some ⟨g0,0,none⟩) ks.length c0] 41)).cell? ⟨wd.heap.size,1,none⟩=some (.slice (some ⟨g0,0,none⟩) ks.length c0):=by go_simp
  refine wpOp_value (i:=9) (v:=.slice (some ⟨wd.heap.size,0,none⟩) 1 1) (w'':=wd.alloc (.cells #[.int .i64 c,.slice (some ⟨g0,0,none⟩) ks.length c0] 41)) rfl (by rfl) (by go_simp) ⟨⟨ya,ma⟩, ?_⟩;refine layy ?_;have W6:=Lib.hid (W5.out.trans A6);clear y15 m55 yd md A6;generalize wd.heap.size=gt at e0 e1 ⊢;generalize wd.alloc (.cells #[.int .i64 c,.slice (some ⟨g0,0,none⟩) ks.length c0] 41)=w6 at *;refine wpAnyX_fork [10] (by kernel_rfl) (by simp) (by simp) ?_;intro i10 hi10;obtain rfl:i10=10:=by simpa using hi10
  refine wpOp_append_N (i:=10) (.tmp 50) (.tmp 54) 47 41 rfl rfl (by rfl) (z:=.agg #[.int .i64 0,.slice none 0 0]) (n:=2) (bytes:=32) Tryz.underlying47 (by kernel_rfl) rfl (by decide) (by decide) (m:=nn) (by rw [List.length_zipWith,N4.out.n.kl,Nat.min_self,HNN.out]) rfl rfl (NR.out.ext W6.out) (y:=[.int .i64 c,.slice (some ⟨g0,0,none⟩) ks.length c0]) rfl (cells2 e0 e1) (by simp [Value.oneCell']) (by omega) ?_;intro g cap w7 row hR hG hrow hg hlt;have gm5:i.gm ∉ blk pn:=fun hm=>(N4.out.ndn _ hm).1 rfl
  have k7:But (blk pn) w6 w7:=⟨hG.os,hG.tape,hG.output,hG.size,fun j hj hn=>hG.block j hj fun e=>hn (by rw [hrow j e.symm];simp [blk])⟩
  have gyp:w.heap.size ∉ blk pn:=fun hm=>by have:=(H.out.lo _ (.inl (MkSt.in_pn _ _ _ hm))).2;omega
  have y17:=(k7.cell (cell_lt ya) gyp 0).trans ya;have m57:=(k7.cell (cell_lt ma) gm5 5).trans ma;have fz7:=(k7.frozen (cell_lt ma) gm5 5).trans ((W6.out.frozen (by have:=HB5.out.size;have:=(N4.out.lo i.gm (.inl (MkSt.in_m _ _ _))).2;omega) 5).trans fz5);have NB:=Lib.hid (N4.out.node_ (g0:=g0) (c0:=c0) (q:=(c,ks)) (HB5.out.trans (But.ofExt W6.out)) (by have:=HM5.out.ext W6.out;rw [← HK2x.out] at this;exact this) hR hG hrow hg hlt (HS.out.ext E4.out) ⟨H0.out.1,by have:=H0.out.2;have:=HX4.out;omega⟩ H2.out);rw [HNN.out] at NB;refine ⟨⟨y17,m57⟩, ?_⟩;refine layy ?_;clear hR hG hrow hg hlt k7 ya ma e0 e1 gm5 gyp
  skip
  refine' tkE 11 rfl ?hy11_44 ?_
  case hy11_44=>(intro w _;go_simp;try with_reducible rfl)
  refine layy ?_;refine' tkE 12 rfl ?hy12_45 ?_
  case hy12_45=>(intro w _;go_simp;try with_reducible rfl)
  refine layy ?_;refine' tkE 13 rfl ?hy13_46 ?_
  case hy13_46=>(intro w _;go_simp;try with_reducible rfl)
  refine layy ?_;refine wpAnyX_done (by kernel_rfl) ?_;intro w9 e9 _;subst e9;simp only [List.drop_succ_cons,List.drop_zero]
  go_wp2_with fail
  go_returns;obtain ⟨N8,B8,GI⟩:=NB.out;refine ⟨rfl,_,_,_,_,N8, ?_, ?_⟩
  · have b1:But (i.dyn pe pn) w x4:=But.ofExt E4.out;exact b1.trans (B8.mono (l':=i.dyn pe pn) (fun x hx=>by
     rcases List.mem_cons.1 hx with rfl | hx
     · exact MkSt.in_m _ _ _
     · rcases List.mem_cons.1 hx with rfl | hx
       · exact MkSt.in_n _ _ _
       · exact MkSt.in_pn _ _ _ hx))
  · intro b hb;have l2:=HX4.out;simp only [Mkr.dyn,blk,List.mem_cons,List.mem_append,List.not_mem_nil,or_false] at hb
    rcases hb with hb | hb | hb | hb | hb
    · exact .inl (by rw [hb];exact MkSt.in_m _ _ _)
    · exact .inl (by rw [hb];exact MkSt.in_e _ _ _)
    · exact .inl (by rw [hb];exact MkSt.in_n _ _ _)
    · exact .inl (MkSt.in_pe _ _ _ hb)
    · rw [hb]
      rcases GI with h | h
      · exact .inl (MkSt.in_pn _ _ _ h)
      · exact .inr (by omega)
end Go.Proofs.YtdokmmhjmclmnaaGreat
