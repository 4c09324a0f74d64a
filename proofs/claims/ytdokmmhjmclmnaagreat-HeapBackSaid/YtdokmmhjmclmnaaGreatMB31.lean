/-
  Part 31 of a proof: LD9.
-/
import Derived.Test.YtdokmmhjmclmnaaGreatMB06
import Derived.Test.YtdokmmhjmclmnaaGreatMB30
set_option linter.unusedSimpArgs false
set_option linter.unusedVariables false
set_option linter.unusedSectionVars false
set_option linter.unnecessarySimpa false
namespace Go.Proofs.YtdokmmhjmclmnaaGreat
open Go.RowKit Go.Maps
theorem sClone_gen {w:World} {p:Option Addr} {c:Nat} {l:List Int} (h:SliceAt w p c l) (hl:l.length ≤ 1000000) :
    Calls Tryz.prog 60 #[.slice p l.length c] w fun e w'=>∃ p' c',e = .returned (.slice p' l.length c') ∧ SliceAt w' p' c' l ∧ Ext w w' ∧ ∀ b ∈ blk p',w.heap.size ≤ b ∧ b < w'.heap.size:=by
  by_cases h0:0 < l.length
  · refine (sClone_any h (.inl h0) hl).mono ?_;rintro e w' ⟨p',c',rfl,hR,hE,hg⟩;obtain ⟨g,rfl⟩:=hg h0;exact ⟨_,_,rfl,hR.at_,hE,fun b hb=>by have:=hR.far rfl;have:=hR.lt rfl;simp [blk] at hb;omega⟩
  · have hl0:l=[]:=List.eq_nil_of_length_eq_zero (by omega);subst hl0;have q22:∀ (w:World) (a:Option Addr) (n c n' c':Nat),(binOp .eql 22 (.slice a n c) (.slice none n' c')).run Tryz.prog w = .ok (.bool a.isNone) w:=fun w a n c n' c'=>Lib.run_eql_slice_nil w _ _ a n c n' c' Tryz.underlying22
    have hc:=h.cap;clear h h0
    cases p with
    | none=>
     go_enter Tryz.func60,Tryz.ntmps60;go_wp2;go_returns;exact ⟨none,0,rfl,⟨Nat.le_refl _,by omega,by simp,fun h=>by simp at h⟩,exx,by simp [blk]⟩
    | some a=>
     simp only [List.length_nil];go_enter Tryz.func60,Tryz.ntmps60;go_wp2;go_returns;exact ⟨some ⟨w.heap.size,0,none⟩,0,rfl,⟨Nat.le_refl _,by omega,by simp,fun h=>by simp at h⟩,exx,fun b hb=>by simp [blk] at hb ⊢;omega⟩
def DiagPost (w:World) (S:Hp.Hs) (x:Int) (D:Hp.Dg) (e:Ending) (w':World):Prop:=
 ∃ L:DgL,e = .returned (.tuple #[.agg #[.slice L.ps S.sizes.length L.cs,.slice L.po S.order.length L.co,.slice L.pe D.ends.length L.ce,.slice L.pn D.nodes.length L.cn,.int .i64 x],.int .i64 0]) ∧ DgRd w' L S.sizes S.order D.ends D.nodes ∧ Ext w w' ∧ ∀ b ∈ L.blocks,w.heap.size ≤ b ∧ b < w'.heap.size
structure Own5 (W:World) (g:Nat) (c0 c1 c2 c3 c4:Value):Prop where
 a0:W.cell? ⟨g,0,none⟩=some c0
 a1:W.cell? ⟨g,1,none⟩=some c1
 a2:W.cell? ⟨g,2,none⟩=some c2
 a3:W.cell? ⟨g,3,none⟩=some c3
 a4:W.cell? ⟨g,4,none⟩=some c4
 z:∀ o,W.frozen? ⟨g,o,none⟩=false
namespace Own5
variable {W W':World} {g:Nat} {c0 c1 c2 c3 c4 d0 d1 d2 d3 d4:Value}
theorem but (h:Own5 W g c0 c1 c2 c3 c4) {l:List Nat} (k:But l W W') (hg:g ∉ l):Own5 W' g c0 c1 c2 c3 c4:=by
 have z:=cell_lt h.a0
 exact ⟨(k.cell z hg 0).trans h.a0,(k.cell z hg 1).trans h.a1,(k.cell z hg 2).trans h.a2,(k.cell z hg 3).trans h.a3,(k.cell z hg 4).trans h.a4,fun o=>(k.frozen z hg o).trans (h.z o)⟩
theorem ext (h:Own5 W g c0 c1 c2 c3 c4) (k:Ext W W'):Own5 W' g c0 c1 c2 c3 c4:=h.but (l:=[]) (But.ofExt k) (by simp)
theorem set (h:Own5 W g c0 c1 c2 c3 c4):Own5 (((((W.setCell ⟨g,0,none⟩ d0).setCell ⟨g,1,none⟩ d1).setCell ⟨g,2,none⟩ d2).setCell ⟨g,3,none⟩ d3).setCell ⟨g,4,none⟩ d4) g d0 d1 d2 d3 d4:=by
 obtain ⟨a0,a1,a2,a3,a4,z⟩:=h
 exact ⟨by simp [go_sem,a0],by simp [go_sem,a1],by simp [go_sem,a2],by simp [go_sem,a3],by simp [go_sem,a4],fun o=>by simp [go_sem,z]⟩
theorem set4 (h:Own5 W g c0 c1 c2 c3 c4):Own5 (W.setCell ⟨g,4,none⟩ d4) g c0 c1 c2 c3 d4:=by
 obtain ⟨a0,a1,a2,a3,a4,z⟩:=h
 exact ⟨by simp [go_sem,a0],by simp [go_sem,a1],by simp [go_sem,a2],by simp [go_sem,a3],by simp [go_sem,a4],fun o=>by simp [go_sem,z]⟩
end Own5
theorem DgSt.start {wb w6:World} {hb hx gd:Nat} {v0 v1 v4:Value} {t1 t2:TypeId} (E:Ext wb w6) (O:Own5 w6 gd v0 v1 (.slice none 0 0) (.slice none 0 0) v4) (g:w6.cell? ⟨hx,0,none⟩=some (.pointer (some ⟨hb,0,none⟩))) (h1:wb.heap.size ≤ hx) (h2:wb.heap.size ≤ gd) (hne:hx ≠ gd) :
    DgSt wb (((w6.alloc (.map #[] 0)).alloc (.cells #[.map (some w6.heap.size)] t1)).alloc (.cells #[.func (.func 81) #[] #[.pointer (some ⟨w6.heap.size+1,0,none⟩),.pointer (some ⟨hx,0,none⟩),.pointer (some ⟨gd,0,none⟩),.pointer (some ⟨w6.heap.size+1+1,0,none⟩)]] t2))
     ⟨hb,w6.heap.size+1,hx,gd,w6.heap.size+1+1,w6.heap.size,v0,v1,v4⟩ ⟨[],[],[]⟩ none 0 none 0 []:=by
  have zh:=cell_lt g;have zg:=cell_lt O.a0;have k:Ext w6 (((w6.alloc (.map #[] 0)).alloc (.cells #[.map (some w6.heap.size)] t1)).alloc (.cells #[.func (.func 81) #[] #[.pointer (some ⟨w6.heap.size+1,0,none⟩),.pointer (some ⟨hx,0,none⟩),.pointer (some ⟨gd,0,none⟩),.pointer (some ⟨w6.heap.size+1+1,0,none⟩)]] t2)):=exx;have O7:=O.ext k;have le:=E.le
  exact
   { ext:=E.trans k
     k:=by go_simp
     h:=(k.cell zh 0).trans g
     f:=by unfold Dd.fv;go_simp
     d2:=O7.a2
     d3:=O7.a3
     d0:=O7.a0
     d1:=O7.a1
     d4:=O7.a4
     z:=O7.z
     z2:=O7.z 2
     z3:=O7.z 3
     map:=((MapIAt.made w6).ext (Ext.alloc (Ext.refl _) _)).ext (Ext.alloc (Ext.refl _) _)
     er:=RowN.nil _ _ _
     nr:=RowN.nil _ _ _
     kl:=rfl
     ks:=fun j q k h=>by simp at h
     lo:=fun b hb=>by
      simp [Dd.fixed,Dd.dyn,blk] at hb;simp;omega
     fx:=fun b hb=>by
      simp [Dd.fixed,Dd.dyn,blk] at hb ⊢;omega
     kx:=fun k hk=>by cases hk
     nd:=by simp [blk];omega }
set_option maxRecDepth 100000 in
set_option maxHeartbeats 16000000 in
theorem Diagram_any {w:World} {d:Hd} {S:Hp.Hs} {B:Nat} {L:List Hp.Tl} {ch:Nat → List Nat} {a:Nat} {x:Int} {D:Hp.Dg} (h:HAt w d S) (hw:Hp.Wf S B L ch) (ha:a ∈ S.taken) (hx:S.diagram a=some (x,D)) :
    Calls Tryz.prog 23 #[.pointer (some ⟨d.hb,0,none⟩),.int .i64 a] w (DiagPost w S x D):=by
  have pa:=hw.part ha;have hhi:=hw.hi;have fr:=hw.fr;have H:=Lib.hid h;have HW:=Lib.hid hw;have HX:=Lib.hid hx;have HA:=Lib.hid ha;have HB:=Lib.hid (Hp.has_of ha);obtain ⟨hs5,ho5⟩:S.sizes.length ≤ 1000000 ∧ S.order.length ≤ 1000000:=by
   have:=fr.few;have:=fr.len;omega
  have zh:=h.lt;have c0:=h.c0;have c1:=h.c1;have ss:=h.sizes.le;have oo:=h.order.le;obtain ⟨ns,hns⟩:∃ ns,S.sizes.length=ns:=⟨_,rfl⟩
  obtain ⟨no,hno⟩:∃ no,S.order.length=no:=⟨_,rfl⟩
  have NS:=Lib.hid hns;have NO:=Lib.hid hno;rw [hns] at c0 hs5 ss;rw [hno] at c1 ho5 oo;have CS:=Lib.hid (fun W (hE:Ext w W)=>sClone_gen (H.out.ext hE).sizes (by rw [NS.out];exact hs5));have CO:=Lib.hid (fun W (hE:Ext w W)=>sClone_gen (H.out.ext hE).order (by rw [NO.out];exact ho5));rw [hns] at CS;rw [hno] at CO;clear h hw ha hx fr hns hno;have mixed:Tryz.prog.follows .mixedOrders=true:=by kernel_rfl
  have hmm:=@run_makeMap Tryz.prog;go_enter Tryz.func23,Tryz.ntmps23;go_upto_region 4 with (go_at_call 77;refine (open_yes (H.out.ext (exx)) HB.out (by omega) (by omega)).mono ?_;rintro e w1 ⟨rfl,hb1⟩;obtain ⟨hc1,hf1,hs1⟩:=hb1.cells;have hz1_0:w.heap.size < w1.heap.size:=(by have h:=hb1.le;(try simp at h);omega);have hc1_0:=hb1.cell (b:=w.heap.size) (by first | omega | (simp;done) | (simp;omega));have hf1_0:=hb1.frozen (b:=w.heap.size) (by first | omega | (simp;done) | (simp;omega));have hz1_1:w.heap.size+1 < w1.heap.size:=(by have h:=hb1.le;(try simp at h);omega);have hc1_1:=hb1.cell (b:=w.heap.size+1) (by first | omega | (simp;done) | (simp;omega));have hf1_1:=hb1.frozen (b:=w.heap.size+1) (by first | omega | (simp;done) | (simp;omega)))
  refine cut_world (F:=fun W=>Hid (Ext w W) ∧ W.cell? ⟨w.heap.size,0,none⟩=some (.pointer (some ⟨d.hb,0,none⟩)) ∧ Hid (Own5 W (w.heap.size+1) (.slice none 0 0) (.slice none 0 0) (.slice none 0 0) (.slice none 0 0) (.int .i64 0)) ∧ w.heap.size+1 < W.heap.size) ⟨Lib.hid (exx),by go_simp,Lib.hid ⟨by go_simp,by go_simp,by go_simp,by go_simp,by go_simp,fun o=>by go_simp⟩,by omega⟩ ?_;intro w2 ⟨E2,g1,O2,z3⟩;have HX0:=Lib.hid (show w.heap.size ≤ w.heap.size from Nat.le_refl _);have GD0:=Lib.hid (show w.heap.size ≤ w.heap.size+1 ∧ w.heap.size ≠ w.heap.size+1 from ⟨by omega,by omega⟩);clear hb1 hc1 hf1 hs1 hz1_0 hz1_1 hc1_0 hc1_1 hf1_0 hf1_1;generalize w.heap.size+1=gd at O2 z3 GD0 ⊢;generalize hwz:w.heap.size=hx at g1 HX0 GD0 ⊢;have HWZ:=Lib.hid hwz;clear hwz;refine wp_region_seq (S:=fun W=>Ext w W ∧ W.cell? ⟨hx,0,none⟩=some (.pointer (some ⟨d.hb,0,none⟩))) (R:=Eq) (by kernel_rfl) (fun _=>rfl) ?_ ?_
  · exact ⟨E2.out.drew,g1⟩
  have O3:Hid (Own5 w2.drew gd (.slice none 0 0) (.slice none 0 0) (.slice none 0 0) (.slice none 0 0) (.int .i64 0)):=Lib.hid (O2.out.ext (Ext.drew (Ext.refl w2)));have E3:Hid (Ext w w2.drew):=Lib.hid E2.out.drew;have g3:w2.drew.cell? ⟨hx,0,none⟩=some (.pointer (some ⟨d.hb,0,none⟩)):=g1;have zz:gd < w2.drew.heap.size:=z3;clear O2 E2 g1 z3;generalize w2.drew=w3 at O3 E3 g3 zz ⊢;refine' wpAnyR_take (i:=0) (v:=?v0_1) (fun _=>rfl) (fun _ _ _ h k=>h.trans k) rfl (by kernel_rfl) (by kernel_rfl) (by kernel_rfl) (fun _ _ _ h=>h) (Or.inl (Or.inl ⟨by rfl, ?hy0_1⟩)) ?rest0_1
  case hy0_1=>(intro w hSw;(obtain ⟨s1,s2⟩:=hSw;have q0:=(s1.cell zh 0).trans c0;have q1:=(s1.cell zh 1).trans c1);go_simp;try with_reducible rfl)
  refine layy ?_;refine' wpAnyR_take (i:=1) (v:=?v1_2) (fun _=>rfl) (fun _ _ _ h k=>h.trans k) rfl (by kernel_rfl) (by kernel_rfl) (by kernel_rfl) (fun _ _ _ h=>h) (Or.inl (Or.inl ⟨by rfl, ?hy1_2⟩)) ?rest1_2
  case hy1_2=>(intro w hSw;(obtain ⟨s1,s2⟩:=hSw;have q0:=(s1.cell zh 0).trans c0;have q1:=(s1.cell zh 1).trans c1);go_simp;try with_reducible rfl)
  refine layy ?_;refine' wpAnyR_take (i:=2) (v:=?v2_3) (fun _=>rfl) (fun _ _ _ h k=>h.trans k) rfl (by kernel_rfl) (by kernel_rfl) (by kernel_rfl) (fun _ _ _ h=>h) (Or.inl (Or.inl ⟨by rfl, ?hy2_3⟩)) ?rest2_3
  case hy2_3=>(intro w hSw;(obtain ⟨s1,s2⟩:=hSw;have q0:=(s1.cell zh 0).trans c0;have q1:=(s1.cell zh 1).trans c1);go_simp;try with_reducible rfl)
  refine layy ?_;refine' wpAnyR_take (i:=3) (v:=?v3_4) (fun _=>rfl) (fun _ _ _ h k=>h.trans k) rfl (by kernel_rfl) (by kernel_rfl) (by kernel_rfl) (fun _ _ _ h=>h) (Or.inl (Or.inl ⟨by rfl, ?hy3_4⟩)) ?rest3_4
  case hy3_4=>(intro w hSw;(obtain ⟨s1,s2⟩:=hSw;have q0:=(s1.cell zh 0).trans c0;have q1:=(s1.cell zh 1).trans c1);go_simp;try with_reducible rfl)
  refine layy ?_;refine' wpAnyR_take (i:=4) (v:=?v4_5) (fun _=>rfl) (fun _ _ _ h k=>h.trans k) rfl (by kernel_rfl) (by kernel_rfl) (by kernel_rfl) (fun _ _ _ h=>h) (Or.inl (Or.inl ⟨by rfl, ?hy4_5⟩)) ?rest4_5
  case hy4_5=>(intro w hSw;(obtain ⟨s1,s2⟩:=hSw;have q0:=(s1.cell zh 0).trans c0;have q1:=(s1.cell zh 1).trans c1);go_simp;try with_reducible rfl)
  refine layy ?_;refine' wpAnyR_take (i:=6) (v:=?v6_6) (fun _=>rfl) (fun _ _ _ h k=>h.trans k) rfl (by kernel_rfl) (by kernel_rfl) (by kernel_rfl) (fun _ _ _ h=>h) (Or.inl (Or.inl ⟨by rfl, ?hy6_6⟩)) ?rest6_6
  case hy6_6=>(intro w hSw;(obtain ⟨s1,s2⟩:=hSw;have q0:=(s1.cell zh 0).trans c0;have q1:=(s1.cell zh 1).trans c1);go_simp;try with_reducible rfl)
  refine layy ?_;refine' wpAnyR_take (i:=7) (v:=?v7_7) (fun _=>rfl) (fun _ _ _ h k=>h.trans k) rfl (by kernel_rfl) (by kernel_rfl) (by kernel_rfl) (fun _ _ _ h=>h) (Or.inl (Or.inl ⟨by rfl, ?hy7_7⟩)) ?rest7_7
  case hy7_7=>(intro w hSw;(obtain ⟨s1,s2⟩:=hSw;have q0:=(s1.cell zh 0).trans c0;have q1:=(s1.cell zh 1).trans c1);go_simp;try with_reducible rfl)
  refine layy ?_;refine' wpAnyR_take (i:=8) (v:=?v8_8) (fun _=>rfl) (fun _ _ _ h k=>h.trans k) rfl (by kernel_rfl) (by kernel_rfl) (by kernel_rfl) (fun _ _ _ h=>h) (Or.inl (Or.inl ⟨by rfl, ?hy8_8⟩)) ?rest8_8
  case hy8_8=>(intro w hSw;(obtain ⟨s1,s2⟩:=hSw;have q0:=(s1.cell zh 0).trans c0;have q1:=(s1.cell zh 1).trans c1);go_simp;try with_reducible rfl)
  refine layy ?_;refine' wpAnyR_take (i:=9) (v:=?v9_9) (fun _=>rfl) (fun _ _ _ h k=>h.trans k) rfl (by kernel_rfl) (by kernel_rfl) (by kernel_rfl) (fun _ _ _ h=>h) (Or.inl (Or.inl ⟨by rfl, ?hy9_9⟩)) ?rest9_9
  case hy9_9=>(intro w hSw;(obtain ⟨s1,s2⟩:=hSw;have q0:=(s1.cell zh 0).trans c0;have q1:=(s1.cell zh 1).trans c1);go_simp;try with_reducible rfl)
  refine layy ?_;refine' wpAnyR_take (i:=10) (v:=?v10_10) (fun _=>rfl) (fun _ _ _ h k=>h.trans k) rfl (by kernel_rfl) (by kernel_rfl) (by kernel_rfl) (fun _ _ _ h=>h) (Or.inl (Or.inl ⟨by rfl, ?hy10_10⟩)) ?rest10_10
  case hy10_10=>(intro w hSw;(obtain ⟨s1,s2⟩:=hSw;have q0:=(s1.cell zh 0).trans c0;have q1:=(s1.cell zh 1).trans c1);go_simp;try with_reducible rfl)
  refine layy ?_;refine wpAnyE_call 5 (f:=60) (args:=#[.slice d.sp ns d.sc]) rfl (by kernel_rfl) (by rfl) ?run5 ?call5
  case run5=>go_simp
  refine (CS.out w3 E3.out).mono ?_;rintro e w4 ⟨p4,c4,rfl,hS4,hE4,hB4⟩;have E4:=Lib.hid (E3.out.trans hE4);have g4:=(hE4.cell (cell_lt g3) 0).trans g3;have S4:=Lib.hid hS4;have B4:=Lib.hid (show ∀ b ∈ blk p4,w3.heap.size ≤ b ∧ b < w4.heap.size from hB4);have O4:=Lib.hid (O3.out.ext hE4);have zz4:w3.heap.size ≤ w4.heap.size:=hE4.le;refine ⟨.slice p4 ns c4,rfl,⟨E4.out,g4⟩, ?_⟩;clear hS4 hE4 hB4 O3;refine layy ?_;refine wpAnyE_call 11 (f:=60) (args:=#[.slice d.op no d.oc]) rfl (by kernel_rfl) (by rfl) ?run11 ?call11
  case run11=>go_simp
  refine (CO.out w4 E4.out).mono ?_;rintro e w5 ⟨p5,c5,rfl,hS5,hE5,hB5⟩;have E5:=Lib.hid (E4.out.trans hE5);have g5:=(hE5.cell (cell_lt g4) 0).trans g4;have S45:=Lib.hid (S4.out.ext hE5);have S5:=Lib.hid hS5;have B5:=Lib.hid (show ∀ b ∈ blk p5,w4.heap.size ≤ b ∧ b < w5.heap.size from hB5);have O5:=Lib.hid (O4.out.ext hE5);have zz5:w4.heap.size ≤ w5.heap.size:=hE5.le;refine ⟨.slice p5 no c5,rfl,⟨E5.out,g5⟩, ?_⟩;clear hS5 hE5 hB5 O4 S4;refine layy ?_;refine' wpAnyR_take (i:=12) (v:=?v12_11) (fun _=>rfl) (fun _ _ _ h k=>h.trans k) rfl (by kernel_rfl) (by kernel_rfl) (by kernel_rfl) (fun _ _ _ h=>h) (Or.inl (Or.inl ⟨by rfl, ?hy12_11⟩)) ?rest12_11
  case hy12_11=>(intro w _;go_simp;try with_reducible rfl)
  refine layy ?_;obtain ⟨o0,o1,o2,o3,o4,oz⟩:=O5.out;have K6:But [gd] w5 (((((w5.setCell ⟨gd,0,none⟩ (.slice p4 ns c4)).setCell ⟨gd,1,none⟩ (.slice p5 no c5)).setCell ⟨gd,2,none⟩ (.slice none 0 0)).setCell ⟨gd,3,none⟩ (.slice none 0 0)).setCell ⟨gd,4,none⟩ (.int .i64 0)):=(((((But.refl _ _).setCell (.inl (by simp)) _).setCell (.inl (by simp)) _).setCell (.inl (by simp)) _).setCell (.inl (by simp)) _).setCell (.inl (by simp)) _;have N6':=O5.out.set (d0:=.slice p4 ns c4) (d1:=.slice p5 no c5) (d2:=.slice none 0 0) (d3:=.slice none 0 0) (d4:=.int .i64 0);obtain ⟨w6,hw6⟩:∃ W,(((((w5.setCell ⟨gd,0,none⟩ (.slice p4 ns c4)).setCell ⟨gd,1,none⟩ (.slice p5 no c5)).setCell ⟨gd,2,none⟩ (.slice none 0 0)).setCell ⟨gd,3,none⟩ (.slice none 0 0)).setCell ⟨gd,4,none⟩ (.int .i64 0))=W:=⟨_,rfl⟩
  rw [hw6] at K6 N6';have N6:=Lib.hid N6';have E6:=Lib.hid (K6.toExt E5.out (fun b hb=>by rw [List.mem_singleton.1 hb,HWZ.out];exact GD0.out.1));have g6:=(K6.cell (cell_lt g5) (by simpa using GD0.out.2) 0).trans g5;have S46:=Lib.hid (S45.out.but K6 (fun b o e hm=>by have:=(B4.out b (mem_blk e)).1;rw [List.mem_singleton.1 hm] at this;omega));have S56:=Lib.hid (S5.out.but K6 (fun b o e hm=>by have:=(B5.out b (mem_blk e)).1;rw [List.mem_singleton.1 hm] at this;omega));have zz6:=K6.size;have HBL:=Lib.hid (show ∀ b,b ∈ blk p4 ∨ b ∈ blk p5 → gd < b ∧ b < w6.heap.size from fun b hb=>by
   rcases hb with hb | hb
   · have:=B4.out b hb;omega
   · have:=B5.out b hb;omega)
  refine wpAnyE_put 13 (w':=w6) rfl (by kernel_rfl) (by rfl) ?run13 ⟨E6.out,g6⟩ ?next13
  case run13=>rw [← hw6];go_simp
  clear hw6 o0 o1 o2 o3 o4 oz N6' K6 S45 S5 O5 E5 E4 E3 g3 g4 g5 B4 B5;refine layy ?_;refine wpAnyR_done (by kernel_rfl) ?_ _;intro w6' e6 _;subst e6;go_upto_region 8 with fail
  refine cut_world (F:=fun W=>Hid (DgSt w W ⟨d.hb,w6.heap.size+1,hx,gd,w6.heap.size+1+1,w6.heap.size,.slice p4 ns c4,.slice p5 no c5,.int .i64 0⟩ ⟨[],[],[]⟩ none 0 none 0 []) ∧ Hid (Ext w6 W)) ?start ?_
  case start=>exact ⟨Lib.hid (DgSt.start E6.out N6.out g6 (by rw [HWZ.out];exact Nat.le_refl _) (by rw [HWZ.out];exact GD0.out.1) GD0.out.2),Lib.hid (exx)⟩
  intro w7 ⟨N7,E7⟩;have CALL:=Lib.hid (from_any H.out HW.out rfl _ a HA.out (by have:=Hp.rank_lo S.order (Hp.ow S.words a);unfold Hp.rk;rw [NO.out];show (no:Int)-_ < ((no+2:Nat):Int);omega) w7 ⟨[],[],[]⟩ D none none 0 0 [] x N7.out ⟨List.Pairwise.nil,by simp,rfl,by simp,by simp⟩ (by have:=HX.out;unfold Hp.Hs.diagram at this;rw [NO.out] at this;exact this));unfold Dd.args at CALL;simp only at CALL;have f7:=N7.out.f;unfold Dd.fv at f7;simp only at f7;have e7:=N7.out.ext.le;clear g6 N6 CS CO c0 c1;have GK:=Lib.hid (show ∀ b,b < w6.heap.size → b ≠ w6.heap.size from fun b hb=>by omega);generalize w6.heap.size+1+1=fb at N7 CALL f7 ⊢;generalize w6.heap.size+1=kb at N7 CALL f7 ⊢;generalize hgk:w6.heap.size=gk at N7 CALL f7 HBL zz6 GK ⊢;have HGK:=Lib.hid hgk;clear hgk
  go_wp2_with fail
  refine Calls.mono CALL.out ?_;rintro e w8 ⟨rfl,pe,ce,pn,cn,K,N8,B8,Y8,Z8⟩;have O8:Own5 w8 gd (.slice p4 ns c4) (.slice p5 no c5) (.slice pe D.ends.length ce) (.slice pn D.nodes.length cn) (.int .i64 0):=⟨N8.d0,N8.d1,N8.d2,N8.d3,N8.d4,N8.z⟩
  obtain ⟨o0,o1,o2,o3,o4,oz⟩:=O8;have O9:=Lib.hid (Own5.set (d0:=.slice p4 ns c4) (d1:=.slice p5 no c5) (d2:=.slice pe D.ends.length ce) (d3:=.slice pn D.nodes.length cn) (d4:=.int .i64 x) (Own5.set4 (d4:=.int .i64 x) ⟨o0,o1,o2,o3,o4,oz⟩));have K9:But [gd] w8 (((((((w8.setCell ⟨gd,4,none⟩ (.int .i64 x)).setCell ⟨gd,0,none⟩ (.slice p4 ns c4)).setCell ⟨gd,1,none⟩ (.slice p5 no c5)).setCell ⟨gd,2,none⟩ (.slice pe D.ends.length ce)).setCell ⟨gd,3,none⟩ (.slice pn D.nodes.length cn)).setCell ⟨gd,4,none⟩ (.int .i64 x))):=((((((But.refl _ _).setCell (.inl (by simp)) _).setCell (.inl (by simp)) _).setCell (.inl (by simp)) _).setCell (.inl (by simp)) _).setCell (.inl (by simp)) _).setCell (.inl (by simp)) _;have HK9:=Lib.hid K9;have N8h:=Lib.hid N8;have B8h:=Lib.hid B8;clear K9 N8 B8 Y8 Z8 CALL f7
  go_wp2_with fail
  obtain ⟨a0,a1,a2,a3,a4,-⟩:=O9.out;refine bodyPost_ret (v:=.tuple #[.agg #[.slice p4 ns c4,.slice p5 no c5,.slice pe D.ends.length ce,.slice pn D.nodes.length cn,.int .i64 x],.int .i64 0]) (by simp [results,Tryz.results23,go_sem, *]) rfl ?_;have gdyn:gd ∈ (⟨d.hb,kb,hx,gd,fb,gk,.slice p4 ns c4,.slice p5 no c5,.int .i64 0⟩:Dd).dyn pe pn:=DgSt.gd_dyn _ _ _;have far:∀ b,b ∈ blk p4 ∨ b ∈ blk p5 → b ∉ (⟨d.hb,kb,hx,gd,fb,gk,.slice p4 ns c4,.slice p5 no c5,.int .i64 0⟩:Dd).dyn none none:=fun b hb hm=>by
   have h1:=HBL.out b hb;have h2:=GK.out b h1.2;simp only [Dd.dyn,blk,List.mem_cons,List.mem_append,List.not_mem_nil,or_false] at hm;omega
  have ngd:∀ b,b ∈ blk p4 ∨ b ∈ blk p5 → b ∉ [gd]:=fun b hb hm=>by
   have h1:=HBL.out b hb;rw [List.mem_singleton.1 hm] at h1;omega
  have ewl:=E6.out.le;have sz:=HK9.out.size;have sz8:=B8h.out.size;have sz7:=E7.out.le;refine ⟨⟨p4,c4,p5,c5,pe,ce,pn,cn,K.map fun k=>(some ⟨k.1,0,none⟩,k.2)⟩,by rw [NS.out,NO.out], ?_, ?_, ?_⟩
  · refine ⟨((S46.out.ext E7.out).but B8h.out fun b o e=>far b (.inl (mem_blk e))).but HK9.out fun b o e=>ngd b (.inl (mem_blk e)),((S56.out.ext E7.out).but B8h.out fun b o e=>far b (.inr (mem_blk e))).but HK9.out fun b o e=>ngd b (.inr (mem_blk e)),N8h.out.er.rd.but HK9.out fun b o e hm=>?_, ?_,by simp [N8h.out.kl],fun j q k hq hk=>?_⟩
    · have:=N8h.out.nd.2.2.2.1;rw [List.mem_singleton.1 hm] at e;exact this (mem_blk e)
    · rw [List.zipWith_map_right];refine N8h.out.nr.rd.but HK9.out fun b o e hm=>?_
      have:=N8h.out.nd.2.2.2.2.1;rw [List.mem_singleton.1 hm] at e;exact this (mem_blk e)
    · simp only at hk;rw [List.getElem?_map,Option.map_eq_some_iff] at hk;obtain ⟨k',hk',rfl⟩:=hk;refine (N8h.out.ks j q k' hq hk').but HK9.out fun b o e hm=>?_
      have:=N8h.out.kx k' (List.mem_of_getElem? hk')
      cases e
      rw [List.mem_singleton.1 hm] at this;exact this gdyn
  · exact HK9.out.toExt N8h.out.ext (fun b hb=>by rw [List.mem_singleton.1 hb,HWZ.out];exact GD0.out.1)
  · intro b hb;have key:∀ b,b ∈ blk p4 ∨ b ∈ blk p5 → w.heap.size ≤ b ∧ b < w8.heap.size:=fun b hb=>by
     have h1:=HBL.out b hb;have h2:=GD0.out.1;have h3:=HWZ.out;have h4:=HGK.out;omega
    have key2:∀ b,b ∈ (⟨d.hb,kb,hx,gd,fb,gk,.slice p4 ns c4,.slice p5 no c5,.int .i64 0⟩:Dd).dyn pe pn ++ K.map Prod.fst → w.heap.size ≤ b ∧ b < w8.heap.size:=fun b hb=>N8h.out.lo b (by
     simp only [List.mem_append] at hb ⊢
     rcases hb with hb | hb
     · exact .inl (.inr hb)
     · exact .inr hb)
    have main:w.heap.size ≤ b ∧ b < w8.heap.size:=by
     simp only [DgL.blocks,List.mem_append] at hb
     rcases hb with (((hb | hb) | hb) | hb) | hb
     · exact key b (.inl hb)
     · exact key b (.inr hb)
     · exact key2 b (by simp only [List.mem_append];exact .inl (DgSt.pe_dyn _ hb))
     · exact key2 b (by simp only [List.mem_append];exact .inl (DgSt.pn_dyn _ hb))
     · rw [List.mem_flatMap] at hb;obtain ⟨k,hk,hb⟩:=hb;obtain ⟨k',hk',rfl⟩:=List.mem_map.1 hk;have:b=k'.1:=by simpa [blk] using hb
       rw [this];exact key2 _ (by simp only [List.mem_append,List.mem_map];exact .inr ⟨k',hk',rfl⟩)
    omega
end Go.Proofs.YtdokmmhjmclmnaaGreat
