/-
  Part 32 of a proof: LD9 PD2 PD3 PD4 PD5 PD6 ND1 ND2 ND3.
-/
import Derived.Test.YtdokmmhjmclmnaaGreatMN03
import Derived.Test.YtdokmmhjmclmnaaGreatMN06
import Derived.Test.YtdokmmhjmclmnaaGreatMN08
import Derived.Test.YtdokmmhjmclmnaaGreatMN11
import Derived.Test.YtdokmmhjmclmnaaGreatMN22
import Derived.Test.YtdokmmhjmclmnaaGreatMN23
import Derived.Test.YtdokmmhjmclmnaaGreatMN31
set_option linter.unusedSimpArgs false
set_option linter.unusedVariables false
set_option linter.unusedSectionVars false
set_option linter.unnecessarySimpa false
namespace Go.Proofs.YtdokmmhjmclmnaaGreat
open Go.RowKit Go.Maps
theorem sClone_gen {w:World} {p:Option Addr} {c:Nat} {l:List Int} (h:SliceAt w p c l) (hl:l.length ≤ 1000000) :
    Calls Tryz.prog 60 #[.slice p l.length c] w fun e w'=>∃ p' c',e = .returned (.slice p' l.length c') ∧ SliceAt w' p' c' l ∧ Ext w w' ∧ ∀ b ∈ blk p',w.heap.size ≤ b ∧ b < w'.heap.size:=by
  by_cases h0:0 < l.length
  · refine (sClone_any h (.inl h0) hl).mono ?_;rintro e w' ⟨p',c',rfl,hR,hE,hg⟩;obtain ⟨g,rfl⟩:=hg h0;exact ⟨_,_,rfl,hR.at_,hE,fun b hb=>by have:=hR.far rfl;have:=hR.lt rfl;simp [blk] at hb;omega⟩
  · have hl0:l=[]:=List.eq_nil_of_length_eq_zero (by omega);subst hl0;have q22:∀ (w:World) (a:Option Addr) (n c n' c':Nat),(binOp .eql 22 (.slice a n c) (.slice none n' c')).run Tryz.prog w = .ok (.bool a.isNone) w:=fun w a n c n' c'=>Lib.run_eql_slice_nil w _ _ a n c n' c' Tryz.underlying22
    have hc:=h.cap;clear h h0
    cases p with
    | none=>
     go_enter Tryz.func60,Tryz.ntmps60;go_wp2;go_returns;exact ⟨none,0,rfl,⟨Nat.le_refl _,by omega,by simp,fun h=>by simp at h⟩,exx,by simp [blk]⟩
    | some a=>
     simp only [List.length_nil];go_enter Tryz.func60,Tryz.ntmps60;go_wp2;go_returns;exact ⟨some ⟨w.heap.size,0,none⟩,0,rfl,⟨Nat.le_refl _,by omega,by simp,fun h=>by simp at h⟩,exx,fun b hb=>by simp [blk] at hb ⊢;omega⟩
def DiagPost (w:World) (S:Hp.Hs) (x:Int) (D:Hp.Dg) (e:Ending) (w':World):Prop:=
 ∃ L:DgL,e = .returned (.tuple #[.agg #[.slice L.ps S.sizes.length L.cs,.slice L.po S.order.length L.co,.slice L.pe D.ends.length L.ce,.slice L.pn D.nodes.length L.cn,.int .i64 x],.int .i64 0]) ∧ DgRd w' L S.sizes S.order D.ends D.nodes ∧ Ext w w' ∧ ∀ b ∈ L.blocks,w.heap.size ≤ b ∧ b < w'.heap.size
structure Own5 (W:World) (g:Nat) (c0 c1 c2 c3 c4:Value):Prop where
 a0:W.cell? ⟨g,0,none⟩=some c0
 a1:W.cell? ⟨g,1,none⟩=some c1
 a2:W.cell? ⟨g,2,none⟩=some c2
 a3:W.cell? ⟨g,3,none⟩=some c3
 a4:W.cell? ⟨g,4,none⟩=some c4
 z:∀ o,W.frozen? ⟨g,o,none⟩=false
namespace Own5
variable {W W':World} {g:Nat} {c0 c1 c2 c3 c4 d0 d1 d2 d3 d4:Value}
theorem but (h:Own5 W g c0 c1 c2 c3 c4) {l:List Nat} (k:But l W W') (hg:g ∉ l):Own5 W' g c0 c1 c2 c3 c4:=by
 have z:=cell_lt h.a0
 exact ⟨(k.cell z hg 0).trans h.a0,(k.cell z hg 1).trans h.a1,(k.cell z hg 2).trans h.a2,(k.cell z hg 3).trans h.a3,(k.cell z hg 4).trans h.a4,fun o=>(k.frozen z hg o).trans (h.z o)⟩
theorem ext (h:Own5 W g c0 c1 c2 c3 c4) (k:Ext W W'):Own5 W' g c0 c1 c2 c3 c4:=h.but (l:=[]) (But.ofExt k) (by simp)
theorem set (h:Own5 W g c0 c1 c2 c3 c4):Own5 (((((W.setCell ⟨g,0,none⟩ d0).setCell ⟨g,1,none⟩ d1).setCell ⟨g,2,none⟩ d2).setCell ⟨g,3,none⟩ d3).setCell ⟨g,4,none⟩ d4) g d0 d1 d2 d3 d4:=by
 obtain ⟨a0,a1,a2,a3,a4,z⟩:=h
 exact ⟨by simp [go_sem,a0],by simp [go_sem,a1],by simp [go_sem,a2],by simp [go_sem,a3],by simp [go_sem,a4],fun o=>by simp [go_sem,z]⟩
theorem set4 (h:Own5 W g c0 c1 c2 c3 c4):Own5 (W.setCell ⟨g,4,none⟩ d4) g c0 c1 c2 c3 d4:=by
 obtain ⟨a0,a1,a2,a3,a4,z⟩:=h
 exact ⟨by simp [go_sem,a0],by simp [go_sem,a1],by simp [go_sem,a2],by simp [go_sem,a3],by simp [go_sem,a4],fun o=>by simp [go_sem,z]⟩
end Own5
theorem DgSt.start {wb w6:World} {hb hx gd:Nat} {v0 v1 v4:Value} {t1 t2:TypeId} (E:Ext wb w6) (O:Own5 w6 gd v0 v1 (.slice none 0 0) (.slice none 0 0) v4) (g:w6.cell? ⟨hx,0,none⟩=some (.pointer (some ⟨hb,0,none⟩))) (h1:wb.heap.size ≤ hx) (h2:wb.heap.size ≤ gd) (hne:hx ≠ gd) :
    DgSt wb (((w6.alloc (.map #[] 0)).alloc (.cells #[.map (some w6.heap.size)] t1)).alloc (.cells #[.func (.func 81) #[] #[.pointer (some ⟨w6.heap.size+1,0,none⟩),.pointer (some ⟨hx,0,none⟩),.pointer (some ⟨gd,0,none⟩),.pointer (some ⟨w6.heap.size+1+1,0,none⟩)]] t2))
     ⟨hb,w6.heap.size+1,hx,gd,w6.heap.size+1+1,w6.heap.size,v0,v1,v4⟩ ⟨[],[],[]⟩ none 0 none 0 []:=by
  have zh:=cell_lt g;have zg:=cell_lt O.a0;have k:Ext w6 (((w6.alloc (.map #[] 0)).alloc (.cells #[.map (some w6.heap.size)] t1)).alloc (.cells #[.func (.func 81) #[] #[.pointer (some ⟨w6.heap.size+1,0,none⟩),.pointer (some ⟨hx,0,none⟩),.pointer (some ⟨gd,0,none⟩),.pointer (some ⟨w6.heap.size+1+1,0,none⟩)]] t2)):=exx;have O7:=O.ext k;have le:=E.le
  exact
   { ext:=E.trans k
     k:=by go_simp
     h:=(k.cell zh 0).trans g
     f:=by unfold Dd.fv;go_simp
     d2:=O7.a2
     d3:=O7.a3
     d0:=O7.a0
     d1:=O7.a1
     d4:=O7.a4
     z:=O7.z
     z2:=O7.z 2
     z3:=O7.z 3
     map:=((MapIAt.made w6).ext (Ext.alloc (Ext.refl _) _)).ext (Ext.alloc (Ext.refl _) _)
     er:=RowN.nil _ _ _
     nr:=RowN.nil _ _ _
     kl:=rfl
     ks:=fun j q k h=>by simp at h
     lo:=fun b hb=>by
      simp [Dd.fixed,Dd.dyn,blk] at hb;simp;omega
     fx:=fun b hb=>by
      simp [Dd.fixed,Dd.dyn,blk] at hb ⊢;omega
     kx:=fun k hk=>by cases hk
     nd:=by simp [blk];omega }
set_option maxRecDepth 100000 in
set_option maxHeartbeats 16000000 in
theorem Diagram_any {w:World} {d:Hd} {S:Hp.Hs} {B:Nat} {L:List Hp.Tl} {ch:Nat → List Nat} {a:Nat} {x:Int} {D:Hp.Dg} (h:HAt w d S) (hw:Hp.Wf S B L ch) (ha:a ∈ S.taken) (hx:S.diagram a=some (x,D)) :
    Calls Tryz.prog 23 #[.pointer (some ⟨d.hb,0,none⟩),.int .i64 a] w (DiagPost w S x D):=by
  have pa:=hw.part ha;have hhi:=hw.hi;have fr:=hw.fr;have H:=Lib.hid h;have HW:=Lib.hid hw;have HX:=Lib.hid hx;have HA:=Lib.hid ha;have HB:=Lib.hid (Hp.has_of ha);obtain ⟨hs5,ho5⟩:S.sizes.length ≤ 1000000 ∧ S.order.length ≤ 1000000:=by
   have:=fr.few;have:=fr.len;omega
  have zh:=h.lt;have c0:=h.c0;have c1:=h.c1;have ss:=h.sizes.le;have oo:=h.order.le;obtain ⟨ns,hns⟩:∃ ns,S.sizes.length=ns:=⟨_,rfl⟩
  obtain ⟨no,hno⟩:∃ no,S.order.length=no:=⟨_,rfl⟩
  have NS:=Lib.hid hns;have NO:=Lib.hid hno;rw [hns] at c0 hs5 ss;rw [hno] at c1 ho5 oo;have CS:=Lib.hid (fun W (hE:Ext w W)=>sClone_gen (H.out.ext hE).sizes (by rw [NS.out];exact hs5));have CO:=Lib.hid (fun W (hE:Ext w W)=>sClone_gen (H.out.ext hE).order (by rw [NO.out];exact ho5));rw [hns] at CS;rw [hno] at CO;clear h hw ha hx fr hns hno;have mixed:Tryz.prog.follows .mixedOrders=true:=by kernel_rfl
  have hmm:=@run_makeMap Tryz.prog;go_enter Tryz.func23,Tryz.ntmps23;go_upto_region 4 with (go_at_call 77;refine (open_yes (H.out.ext (exx)) HB.out (by omega) (by omega)).mono ?_;rintro e w1 ⟨rfl,hb1⟩;obtain ⟨hc1,hf1,hs1⟩:=hb1.cells;have hz1_0:w.heap.size < w1.heap.size:=(by have h:=hb1.le;(try simp at h);omega);have hc1_0:=hb1.cell (b:=w.heap.size) (by first | omega | (simp;done) | (simp;omega));have hf1_0:=hb1.frozen (b:=w.heap.size) (by first | omega | (simp;done) | (simp;omega));have hz1_1:w.heap.size+1 < w1.heap.size:=(by have h:=hb1.le;(try simp at h);omega);have hc1_1:=hb1.cell (b:=w.heap.size+1) (by first | omega | (simp;done) | (simp;omega));have hf1_1:=hb1.frozen (b:=w.heap.size+1) (by first | omega | (simp;done) | (simp;omega)))
  refine cut_world (F:=fun W=>Hid (Ext w W) ∧ W.cell? ⟨w.heap.size,0,none⟩=some (.pointer (some ⟨d.hb,0,none⟩)) ∧ Hid (Own5 W (w.heap.size+1) (.slice none 0 0) (.slice none 0 0) (.slice none 0 0) (.slice none 0 0) (.int .i64 0)) ∧ w.heap.size+1 < W.heap.size) ⟨Lib.hid (exx),by go_simp,Lib.hid ⟨by go_simp,by go_simp,by go_simp,by go_simp,by go_simp,fun o=>by go_simp⟩,by omega⟩ ?_;intro w2 ⟨E2,g1,O2,z3⟩;have HX0:=Lib.hid (show w.heap.size ≤ w.heap.size from Nat.le_refl _);have GD0:=Lib.hid (show w.heap.size ≤ w.heap.size+1 ∧ w.heap.size ≠ w.heap.size+1 from ⟨by omega,by omega⟩);clear hb1 hc1 hf1 hs1 hz1_0 hz1_1 hc1_0 hc1_1 hf1_0 hf1_1;generalize w.heap.size+1=gd at O2 z3 GD0 ⊢;generalize hwz:w.heap.size=hx at g1 HX0 GD0 ⊢;have HWZ:=Lib.hid hwz;clear hwz;refine wp_region_seq (S:=fun W=>Ext w W ∧ W.cell? ⟨hx,0,none⟩=some (.pointer (some ⟨d.hb,0,none⟩))) (R:=Eq) (by kernel_rfl) (fun _=>rfl) ?_ ?_
  · exact ⟨E2.out.drew,g1⟩
  have O3:Hid (Own5 w2.drew gd (.slice none 0 0) (.slice none 0 0) (.slice none 0 0) (.slice none 0 0) (.int .i64 0)):=Lib.hid (O2.out.ext (Ext.drew (Ext.refl w2)));have E3:Hid (Ext w w2.drew):=Lib.hid E2.out.drew;have g3:w2.drew.cell? ⟨hx,0,none⟩=some (.pointer (some ⟨d.hb,0,none⟩)):=g1;have zz:gd < w2.drew.heap.size:=z3;clear O2 E2 g1 z3;generalize w2.drew=w3 at O3 E3 g3 zz ⊢;refine' wpAnyR_take (i:=0) (v:=?v0_1121) (fun _=>rfl) (fun _ _ _ h k=>h.trans k) rfl (by kernel_rfl) (by kernel_rfl) (by kernel_rfl) (fun _ _ _ h=>h) (Or.inl (Or.inl ⟨by rfl, ?hy0_1121⟩)) ?rest0_1121
  case hy0_1121=>(intro w hSw;(obtain ⟨s1,s2⟩:=hSw;have q0:=(s1.cell zh 0).trans c0;have q1:=(s1.cell zh 1).trans c1);go_simp;try with_reducible rfl)
  refine layy ?_;refine' wpAnyR_take (i:=1) (v:=?v1_1122) (fun _=>rfl) (fun _ _ _ h k=>h.trans k) rfl (by kernel_rfl) (by kernel_rfl) (by kernel_rfl) (fun _ _ _ h=>h) (Or.inl (Or.inl ⟨by rfl, ?hy1_1122⟩)) ?rest1_1122
  case hy1_1122=>(intro w hSw;(obtain ⟨s1,s2⟩:=hSw;have q0:=(s1.cell zh 0).trans c0;have q1:=(s1.cell zh 1).trans c1);go_simp;try with_reducible rfl)
  refine layy ?_;refine' wpAnyR_take (i:=2) (v:=?v2_1123) (fun _=>rfl) (fun _ _ _ h k=>h.trans k) rfl (by kernel_rfl) (by kernel_rfl) (by kernel_rfl) (fun _ _ _ h=>h) (Or.inl (Or.inl ⟨by rfl, ?hy2_1123⟩)) ?rest2_1123
  case hy2_1123=>(intro w hSw;(obtain ⟨s1,s2⟩:=hSw;have q0:=(s1.cell zh 0).trans c0;have q1:=(s1.cell zh 1).trans c1);go_simp;try with_reducible rfl)
  refine layy ?_;refine' wpAnyR_take (i:=3) (v:=?v3_1124) (fun _=>rfl) (fun _ _ _ h k=>h.trans k) rfl (by kernel_rfl) (by kernel_rfl) (by kernel_rfl) (fun _ _ _ h=>h) (Or.inl (Or.inl ⟨by rfl, ?hy3_1124⟩)) ?rest3_1124
  case hy3_1124=>(intro w hSw;(obtain ⟨s1,s2⟩:=hSw;have q0:=(s1.cell zh 0).trans c0;have q1:=(s1.cell zh 1).trans c1);go_simp;try with_reducible rfl)
  refine layy ?_;refine' wpAnyR_take (i:=4) (v:=?v4_1125) (fun _=>rfl) (fun _ _ _ h k=>h.trans k) rfl (by kernel_rfl) (by kernel_rfl) (by kernel_rfl) (fun _ _ _ h=>h) (Or.inl (Or.inl ⟨by rfl, ?hy4_1125⟩)) ?rest4_1125
  case hy4_1125=>(intro w hSw;(obtain ⟨s1,s2⟩:=hSw;have q0:=(s1.cell zh 0).trans c0;have q1:=(s1.cell zh 1).trans c1);go_simp;try with_reducible rfl)
  refine layy ?_;refine' wpAnyR_take (i:=6) (v:=?v6_1126) (fun _=>rfl) (fun _ _ _ h k=>h.trans k) rfl (by kernel_rfl) (by kernel_rfl) (by kernel_rfl) (fun _ _ _ h=>h) (Or.inl (Or.inl ⟨by rfl, ?hy6_1126⟩)) ?rest6_1126
  case hy6_1126=>(intro w hSw;(obtain ⟨s1,s2⟩:=hSw;have q0:=(s1.cell zh 0).trans c0;have q1:=(s1.cell zh 1).trans c1);go_simp;try with_reducible rfl)
  refine layy ?_;refine' wpAnyR_take (i:=7) (v:=?v7_1127) (fun _=>rfl) (fun _ _ _ h k=>h.trans k) rfl (by kernel_rfl) (by kernel_rfl) (by kernel_rfl) (fun _ _ _ h=>h) (Or.inl (Or.inl ⟨by rfl, ?hy7_1127⟩)) ?rest7_1127
  case hy7_1127=>(intro w hSw;(obtain ⟨s1,s2⟩:=hSw;have q0:=(s1.cell zh 0).trans c0;have q1:=(s1.cell zh 1).trans c1);go_simp;try with_reducible rfl)
  refine layy ?_;refine' wpAnyR_take (i:=8) (v:=?v8_1128) (fun _=>rfl) (fun _ _ _ h k=>h.trans k) rfl (by kernel_rfl) (by kernel_rfl) (by kernel_rfl) (fun _ _ _ h=>h) (Or.inl (Or.inl ⟨by rfl, ?hy8_1128⟩)) ?rest8_1128
  case hy8_1128=>(intro w hSw;(obtain ⟨s1,s2⟩:=hSw;have q0:=(s1.cell zh 0).trans c0;have q1:=(s1.cell zh 1).trans c1);go_simp;try with_reducible rfl)
  refine layy ?_;refine' wpAnyR_take (i:=9) (v:=?v9_1129) (fun _=>rfl) (fun _ _ _ h k=>h.trans k) rfl (by kernel_rfl) (by kernel_rfl) (by kernel_rfl) (fun _ _ _ h=>h) (Or.inl (Or.inl ⟨by rfl, ?hy9_1129⟩)) ?rest9_1129
  case hy9_1129=>(intro w hSw;(obtain ⟨s1,s2⟩:=hSw;have q0:=(s1.cell zh 0).trans c0;have q1:=(s1.cell zh 1).trans c1);go_simp;try with_reducible rfl)
  refine layy ?_;refine' wpAnyR_take (i:=10) (v:=?v10_1130) (fun _=>rfl) (fun _ _ _ h k=>h.trans k) rfl (by kernel_rfl) (by kernel_rfl) (by kernel_rfl) (fun _ _ _ h=>h) (Or.inl (Or.inl ⟨by rfl, ?hy10_1130⟩)) ?rest10_1130
  case hy10_1130=>(intro w hSw;(obtain ⟨s1,s2⟩:=hSw;have q0:=(s1.cell zh 0).trans c0;have q1:=(s1.cell zh 1).trans c1);go_simp;try with_reducible rfl)
  refine layy ?_;refine wpAnyE_call 5 (f:=60) (args:=#[.slice d.sp ns d.sc]) rfl (by kernel_rfl) (by rfl) ?run5 ?call5
  case run5=>go_simp
  refine (CS.out w3 E3.out).mono ?_;rintro e w4 ⟨p4,c4,rfl,hS4,hE4,hB4⟩;have E4:=Lib.hid (E3.out.trans hE4);have g4:=(hE4.cell (cell_lt g3) 0).trans g3;have S4:=Lib.hid hS4;have B4:=Lib.hid (show ∀ b ∈ blk p4,w3.heap.size ≤ b ∧ b < w4.heap.size from hB4);have O4:=Lib.hid (O3.out.ext hE4);have zz4:w3.heap.size ≤ w4.heap.size:=hE4.le;refine ⟨.slice p4 ns c4,rfl,⟨E4.out,g4⟩, ?_⟩;clear hS4 hE4 hB4 O3;refine layy ?_;refine wpAnyE_call 11 (f:=60) (args:=#[.slice d.op no d.oc]) rfl (by kernel_rfl) (by rfl) ?run11 ?call11
  case run11=>go_simp
  refine (CO.out w4 E4.out).mono ?_;rintro e w5 ⟨p5,c5,rfl,hS5,hE5,hB5⟩;have E5:=Lib.hid (E4.out.trans hE5);have g5:=(hE5.cell (cell_lt g4) 0).trans g4;have S45:=Lib.hid (S4.out.ext hE5);have S5:=Lib.hid hS5;have B5:=Lib.hid (show ∀ b ∈ blk p5,w4.heap.size ≤ b ∧ b < w5.heap.size from hB5);have O5:=Lib.hid (O4.out.ext hE5);have zz5:w4.heap.size ≤ w5.heap.size:=hE5.le;refine ⟨.slice p5 no c5,rfl,⟨E5.out,g5⟩, ?_⟩;clear hS5 hE5 hB5 O4 S4;refine layy ?_;refine' wpAnyR_take (i:=12) (v:=?v12_1131) (fun _=>rfl) (fun _ _ _ h k=>h.trans k) rfl (by kernel_rfl) (by kernel_rfl) (by kernel_rfl) (fun _ _ _ h=>h) (Or.inl (Or.inl ⟨by rfl, ?hy12_1131⟩)) ?rest12_1131
  case hy12_1131=>(intro w _;go_simp;try with_reducible rfl)
  refine layy ?_;obtain ⟨o0,o1,o2,o3,o4,oz⟩:=O5.out;have K6:But [gd] w5 (((((w5.setCell ⟨gd,0,none⟩ (.slice p4 ns c4)).setCell ⟨gd,1,none⟩ (.slice p5 no c5)).setCell ⟨gd,2,none⟩ (.slice none 0 0)).setCell ⟨gd,3,none⟩ (.slice none 0 0)).setCell ⟨gd,4,none⟩ (.int .i64 0)):=(((((But.refl _ _).setCell (.inl (by simp)) _).setCell (.inl (by simp)) _).setCell (.inl (by simp)) _).setCell (.inl (by simp)) _).setCell (.inl (by simp)) _;have N6':=O5.out.set (d0:=.slice p4 ns c4) (d1:=.slice p5 no c5) (d2:=.slice none 0 0) (d3:=.slice none 0 0) (d4:=.int .i64 0);obtain ⟨w6,hw6⟩:∃ W,(((((w5.setCell ⟨gd,0,none⟩ (.slice p4 ns c4)).setCell ⟨gd,1,none⟩ (.slice p5 no c5)).setCell ⟨gd,2,none⟩ (.slice none 0 0)).setCell ⟨gd,3,none⟩ (.slice none 0 0)).setCell ⟨gd,4,none⟩ (.int .i64 0))=W:=⟨_,rfl⟩
  rw [hw6] at K6 N6';have N6:=Lib.hid N6';have E6:=Lib.hid (K6.toExt E5.out (fun b hb=>by rw [List.mem_singleton.1 hb,HWZ.out];exact GD0.out.1));have g6:=(K6.cell (cell_lt g5) (by simpa using GD0.out.2) 0).trans g5;have S46:=Lib.hid (S45.out.but K6 (fun b o e hm=>by have:=(B4.out b (mem_blk e)).1;rw [List.mem_singleton.1 hm] at this;omega));have S56:=Lib.hid (S5.out.but K6 (fun b o e hm=>by have:=(B5.out b (mem_blk e)).1;rw [List.mem_singleton.1 hm] at this;omega));have zz6:=K6.size;have HBL:=Lib.hid (show ∀ b,b ∈ blk p4 ∨ b ∈ blk p5 → gd < b ∧ b < w6.heap.size from fun b hb=>by
   rcases hb with hb | hb
   · have:=B4.out b hb;omega
   · have:=B5.out b hb;omega)
  refine wpAnyE_put 13 (w':=w6) rfl (by kernel_rfl) (by rfl) ?run13 ⟨E6.out,g6⟩ ?next13
  case run13=>rw [← hw6];go_simp
  clear hw6 o0 o1 o2 o3 o4 oz N6' K6 S45 S5 O5 E5 E4 E3 g3 g4 g5 B4 B5;refine layy ?_;refine wpAnyR_done (by kernel_rfl) ?_ _;intro w6' e6 _;subst e6;go_upto_region 8 with fail
  refine cut_world (F:=fun W=>Hid (DgSt w W ⟨d.hb,w6.heap.size+1,hx,gd,w6.heap.size+1+1,w6.heap.size,.slice p4 ns c4,.slice p5 no c5,.int .i64 0⟩ ⟨[],[],[]⟩ none 0 none 0 []) ∧ Hid (Ext w6 W)) ?start ?_
  case start=>exact ⟨Lib.hid (DgSt.start E6.out N6.out g6 (by rw [HWZ.out];exact Nat.le_refl _) (by rw [HWZ.out];exact GD0.out.1) GD0.out.2),Lib.hid (exx)⟩
  intro w7 ⟨N7,E7⟩;have CALL:=Lib.hid (from_any H.out HW.out rfl _ a HA.out (by have:=Hp.rank_lo S.order (Hp.ow S.words a);unfold Hp.rk;rw [NO.out];show (no:Int)-_ < ((no+2:Nat):Int);omega) w7 ⟨[],[],[]⟩ D none none 0 0 [] x N7.out ⟨List.Pairwise.nil,by simp,rfl,by simp,by simp⟩ (by have:=HX.out;unfold Hp.Hs.diagram at this;rw [NO.out] at this;exact this));unfold Dd.args at CALL;simp only at CALL;have f7:=N7.out.f;unfold Dd.fv at f7;simp only at f7;have e7:=N7.out.ext.le;clear g6 N6 CS CO c0 c1;have GK:=Lib.hid (show ∀ b,b < w6.heap.size → b ≠ w6.heap.size from fun b hb=>by omega);generalize w6.heap.size+1+1=fb at N7 CALL f7 ⊢;generalize w6.heap.size+1=kb at N7 CALL f7 ⊢;generalize hgk:w6.heap.size=gk at N7 CALL f7 HBL zz6 GK ⊢;have HGK:=Lib.hid hgk;clear hgk
  go_wp2_with fail
  refine Calls.mono CALL.out ?_;rintro e w8 ⟨rfl,pe,ce,pn,cn,K,N8,B8,Y8,Z8⟩;have O8:Own5 w8 gd (.slice p4 ns c4) (.slice p5 no c5) (.slice pe D.ends.length ce) (.slice pn D.nodes.length cn) (.int .i64 0):=⟨N8.d0,N8.d1,N8.d2,N8.d3,N8.d4,N8.z⟩
  obtain ⟨o0,o1,o2,o3,o4,oz⟩:=O8;have O9:=Lib.hid (Own5.set (d0:=.slice p4 ns c4) (d1:=.slice p5 no c5) (d2:=.slice pe D.ends.length ce) (d3:=.slice pn D.nodes.length cn) (d4:=.int .i64 x) (Own5.set4 (d4:=.int .i64 x) ⟨o0,o1,o2,o3,o4,oz⟩));have K9:But [gd] w8 (((((((w8.setCell ⟨gd,4,none⟩ (.int .i64 x)).setCell ⟨gd,0,none⟩ (.slice p4 ns c4)).setCell ⟨gd,1,none⟩ (.slice p5 no c5)).setCell ⟨gd,2,none⟩ (.slice pe D.ends.length ce)).setCell ⟨gd,3,none⟩ (.slice pn D.nodes.length cn)).setCell ⟨gd,4,none⟩ (.int .i64 x))):=((((((But.refl _ _).setCell (.inl (by simp)) _).setCell (.inl (by simp)) _).setCell (.inl (by simp)) _).setCell (.inl (by simp)) _).setCell (.inl (by simp)) _).setCell (.inl (by simp)) _;have HK9:=Lib.hid K9;have N8h:=Lib.hid N8;have B8h:=Lib.hid B8;clear K9 N8 B8 Y8 Z8 CALL f7
  go_wp2_with fail
  obtain ⟨a0,a1,a2,a3,a4,-⟩:=O9.out;refine bodyPost_ret (v:=.tuple #[.agg #[.slice p4 ns c4,.slice p5 no c5,.slice pe D.ends.length ce,.slice pn D.nodes.length cn,.int .i64 x],.int .i64 0]) (by simp [results,Tryz.results23,go_sem, *]) rfl ?_;have gdyn:gd ∈ (⟨d.hb,kb,hx,gd,fb,gk,.slice p4 ns c4,.slice p5 no c5,.int .i64 0⟩:Dd).dyn pe pn:=DgSt.gd_dyn _ _ _;have far:∀ b,b ∈ blk p4 ∨ b ∈ blk p5 → b ∉ (⟨d.hb,kb,hx,gd,fb,gk,.slice p4 ns c4,.slice p5 no c5,.int .i64 0⟩:Dd).dyn none none:=fun b hb hm=>by
   have h1:=HBL.out b hb;have h2:=GK.out b h1.2;simp only [Dd.dyn,blk,List.mem_cons,List.mem_append,List.not_mem_nil,or_false] at hm;omega
  have ngd:∀ b,b ∈ blk p4 ∨ b ∈ blk p5 → b ∉ [gd]:=fun b hb hm=>by
   have h1:=HBL.out b hb;rw [List.mem_singleton.1 hm] at h1;omega
  have ewl:=E6.out.le;have sz:=HK9.out.size;have sz8:=B8h.out.size;have sz7:=E7.out.le;refine ⟨⟨p4,c4,p5,c5,pe,ce,pn,cn,K.map fun k=>(some ⟨k.1,0,none⟩,k.2)⟩,by rw [NS.out,NO.out], ?_, ?_, ?_⟩
  · refine ⟨((S46.out.ext E7.out).but B8h.out fun b o e=>far b (.inl (mem_blk e))).but HK9.out fun b o e=>ngd b (.inl (mem_blk e)),((S56.out.ext E7.out).but B8h.out fun b o e=>far b (.inr (mem_blk e))).but HK9.out fun b o e=>ngd b (.inr (mem_blk e)),N8h.out.er.rd.but HK9.out fun b o e hm=>?_, ?_,by simp [N8h.out.kl],fun j q k hq hk=>?_⟩
    · have:=N8h.out.nd.2.2.2.1;rw [List.mem_singleton.1 hm] at e;exact this (mem_blk e)
    · rw [List.zipWith_map_right];refine N8h.out.nr.rd.but HK9.out fun b o e hm=>?_
      have:=N8h.out.nd.2.2.2.2.1;rw [List.mem_singleton.1 hm] at e;exact this (mem_blk e)
    · simp only at hk;rw [List.getElem?_map,Option.map_eq_some_iff] at hk;obtain ⟨k',hk',rfl⟩:=hk;refine (N8h.out.ks j q k' hq hk').but HK9.out fun b o e hm=>?_
      have:=N8h.out.kx k' (List.mem_of_getElem? hk')
      cases e
      rw [List.mem_singleton.1 hm] at this;exact this gdyn
  · exact HK9.out.toExt N8h.out.ext (fun b hb=>by rw [List.mem_singleton.1 hb,HWZ.out];exact GD0.out.1)
  · intro b hb;have key:∀ b,b ∈ blk p4 ∨ b ∈ blk p5 → w.heap.size ≤ b ∧ b < w8.heap.size:=fun b hb=>by
     have h1:=HBL.out b hb;have h2:=GD0.out.1;have h3:=HWZ.out;have h4:=HGK.out;omega
    have key2:∀ b,b ∈ (⟨d.hb,kb,hx,gd,fb,gk,.slice p4 ns c4,.slice p5 no c5,.int .i64 0⟩:Dd).dyn pe pn ++ K.map Prod.fst → w.heap.size ≤ b ∧ b < w8.heap.size:=fun b hb=>N8h.out.lo b (by
     simp only [List.mem_append] at hb ⊢
     rcases hb with hb | hb
     · exact .inl (.inr hb)
     · exact .inr hb)
    have main:w.heap.size ≤ b ∧ b < w8.heap.size:=by
     simp only [DgL.blocks,List.mem_append] at hb
     rcases hb with (((hb | hb) | hb) | hb) | hb
     · exact key b (.inl hb)
     · exact key b (.inr hb)
     · exact key2 b (by simp only [List.mem_append];exact .inl (DgSt.pe_dyn _ hb))
     · exact key2 b (by simp only [List.mem_append];exact .inl (DgSt.pn_dyn _ hb))
     · rw [List.mem_flatMap] at hb;obtain ⟨k,hk,hb⟩:=hb;obtain ⟨k',hk',rfl⟩:=List.mem_map.1 hk;have:b=k'.1:=by simpa [blk] using hb
       rw [this];exact key2 _ (by simp only [List.mem_append,List.mem_map];exact .inr ⟨k',hk',rfl⟩)
    omega
open Go.RowKit Go.Maps
def kidB (d:Nd.Dia) (i:Nat) (k:Int):Bool:=refB k i d.ends.length && decide (¬ rankO d k ≤ rankO d i)
def branchB (d:Nd.Dia) (i:Nat):Bool:=Hp.within 0 ((d.sizes.length:Int)-1) (d.nodeAt i).1 && decide (((d.nodeAt i).2.length:Int)=d.sizes.getD (d.nodeAt i).1.toNat 0) && (d.nodeAt i).2.all (kidB d i)
def looseB (d:Nd.Dia):Bool:=d.ends.all cellOk && (List.range d.nodes.length).all (branchB d) && refB d.root d.nodes.length d.ends.length
structure SrAt (wb w:World) (p1:Option Addr) (k1:Nat) (p2:Option Addr) (k2:Nat) (t:List Int × List Int):Prop where
 ext0:Ext wb w
 r1:Row w 0 p1 k1 t.1
 r2:Row w 0 p2 k2 t.2
 l1:∀ b o,p1=some ⟨b,o,none⟩ → wb.heap.size ≤ b
 l2:∀ b o,p2=some ⟨b,o,none⟩ → wb.heap.size ≤ b
 n12:∀ b o b' o',p1=some ⟨b,o,none⟩ → p2=some ⟨b',o',none⟩ → b ≠ b'
structure SrTo (wb w:World) (p1 p2:Option Addr) (w':World) (q1:Option Addr) (k1:Nat) (q2:Option Addr) (k2:Nat) (t:List Int × List Int):Prop extends SrAt wb w' q1 k1 q2 k2 t where
 but:But (blk p1 ++ blk p2) w w'
 o1:∀ b o,q1=some ⟨b,o,none⟩ → b ∈ blk p1 ∨ w.heap.size ≤ b
 o2:∀ b o,q2=some ⟨b,o,none⟩ → b ∈ blk p2 ∨ w.heap.size ≤ b
namespace SrAt
variable {wb w w':World} {p1 p2:Option Addr} {k1 k2:Nat} {t:List Int × List Int}
theorem ext (h:SrAt wb w p1 k1 p2 k2 t) (k:Ext w w'):SrAt wb w' p1 k1 p2 k2 t:=
 { h with ext0:=h.ext0.trans k,r1:=h.r1.ext k,r2:=h.r2.ext k }
theorem same (h:SrAt wb w p1 k1 p2 k2 t) (k:Ext w w'):SrTo wb w p1 p2 w' p1 k1 p2 k2 t:=
 { h.ext k with but:=But.ofExt k,o1:=fun b o e=>.inl (mem_blk e),o2:=fun b o e=>.inl (mem_blk e) }
end SrAt
theorem row_blk {w:World} {base c x:Nat} {p:Option Addr} {l:List Int} (h:Row w base p c l) (hx:x ∈ blk p):p=some ⟨x,0,none⟩:=by
 rcases h.1.2 with ⟨e,_⟩ | ⟨g,cap,cur,e,_⟩
 · injection e with e1
   subst e1
   cases hx
 · injection e with e1
   subst e1;simp only [blk,List.mem_singleton] at hx;rw [hx]
namespace SrTo
variable {wb w w1 w2:World} {p1 p2 q1 q2 r1 r2:Option Addr} {k1 k2 j1 j2:Nat} {t u:List Int × List Int}
theorem trans (h:SrTo wb w p1 p2 w1 q1 k1 q2 k2 t) (k:SrTo wb w1 q1 q2 w2 r1 j1 r2 j2 u):SrTo wb w p1 p2 w2 r1 j1 r2 j2 u:=by
 have key1:∀ x,x ∈ blk q1 → x ∈ blk p1 ∨ w.heap.size ≤ x:=fun x hx=>h.o1 _ _ (row_blk h.r1 hx)
 have key2:∀ x,x ∈ blk q2 → x ∈ blk p2 ∨ w.heap.size ≤ x:=fun x hx=>h.o2 _ _ (row_blk h.r2 hx)
 refine { k with but:=But.over h.but k.but fun x hx=>?_,o1:=fun b o e=>?_,o2:=fun b o e=>?_ }
 · simp only [List.mem_append] at hx ⊢
   rcases hx with hx | hx
   · exact (key1 x hx).imp .inl id
   · exact (key2 x hx).imp .inr id
 · rcases k.o1 b o e with h1 | h1
   · exact key1 b h1
   · have:=h.but.size;exact .inr (by omega)
 · rcases k.o2 b o e with h1 | h1
   · exact key2 b h1
   · have:=h.but.size;exact .inr (by omega)
end SrTo
open Go.RowKit Go.Maps
theorem SrAt.start (w:World):SrAt w w none 0 none 0 ([],[]):=
 ⟨Ext.refl w,⟨World.ownsRow_nil w _ _ _,by simp⟩,⟨World.ownsRow_nil w _ _ _,by simp⟩,by simp,by simp,by simp⟩
theorem looseB_low {d:Nd.Dia} (h:looseB d=true):d.Low ∧ d.Ref d.root d.nodes.length:=by
 unfold looseB at h
 simp only [Bool.and_eq_true,List.all_eq_true,List.mem_range] at h
 obtain ⟨⟨h1,h2⟩,h3⟩:=h
 refine ⟨fun i hi k hk=>?_,refB_iff.1 h3⟩
 have:=h2 i hi
 unfold branchB at this
 simp only [Bool.and_eq_true,List.all_eq_true] at this
 have:=this.2 k hk
 unfold kidB at this
 simp only [Bool.and_eq_true] at this
 exact refB_iff.1 this.1
def looseE (d:Nd.Dia):Int:=if Hp.frameErr d.sizes d.order ≠ 0 then Hp.frameErr d.sizes d.order else if looseB d=true then 0 else 4
open Classical in
noncomputable def checkE (d:Nd.Dia):Int:=if looseE d ≠ 0 then looseE d else if d.Is then 0 else 4
structure DgNum (d:Nd.Dia):Prop where
 f:∀ v ∈ d.ends,0 ≤ v.1
 el:d.ends.length ≤ 1000000
 nl:d.nodes.length ≤ 6000
 kids:∀ q ∈ d.nodes,∀ k ∈ q.2,-9223372036854775808 ≤ k ∧ k ≤ 9223372036854775807
 root : -9223372036854775808 ≤ d.root ∧ d.root ≤ 9223372036854775807
set_option maxHeartbeats 4000000 in
theorem nIsCell {w:World} (f n:Int) (h0:0 ≤ f) (hn : -9223372036854775808 ≤ n ∧ n ≤ 9223372036854775807) :
    Calls Tryz.prog 188 #[.agg #[.int .u8 f,.int .i64 n]] w fun e w'=>e = .returned (.bool (cellOk (f,n))) ∧ Ext w w':=by
  by_cases hf:f=0
  · subst hf;have e:cellOk (0,n)=Hp.within (-9999) 9999 n:=by unfold cellOk;rw [if_pos rfl]
    have hr : -9223372036854775808 ≤ n ∧ n ≤ 9223372036854775807:=hn
    have hs:∀ t:TypeId,SliceAt ((w.alloc (.cells #[.int .u8 0,.int .i64 n] 43)).alloc (.cells #[.int .i64 n] t)) (some ⟨w.heap.size+1,0,none⟩) 1 [n]:=fun t=>by
     have:=SliceAt.one (w.alloc (.cells #[.int .u8 0,.int .i64 n] 43)) n hr.1 hr.2 t;rw [show (w.alloc (.cells #[.int .u8 0,.int .i64 n] 43)).heap.size=w.heap.size+1 from by simp] at this;exact this
    have e2 : [n].all (fun m=>decide (-9999 ≤ m) && decide (m ≤ 9999))=Hp.within (-9999) 9999 n:=by
     simp only [List.all_cons,List.all_nil,Bool.and_true];rfl
    have W1:=Lib.hid (fun (t:TypeId)=>nWithin_any (hs t) e2);rw [e];generalize Hp.within (-9999) 9999 n=b at *;clear hn hr e e2 hs;go_enter Tryz.func188,Tryz.ntmps188
    go_wp2_with (go_at_call 165;refine (W1.out _).mono ?_;rintro e w1 ⟨rfl,hb1⟩;obtain ⟨hc1,hf1,hs1⟩:=hb1.cells)
    go_returns;exact ⟨rfl,exx⟩
  · have t0:decide (f > 0)=true:=decide_eq_true (by omega)
    by_cases h4:f ≤ 4
    · have t1:decide (f ≤ 4)=true:=decide_eq_true h4;have e:cellOk (f,n)=(n == 0):=by
       unfold cellOk;rw [if_neg hf];simp only [t1,Bool.true_and]
       by_cases hn:n=0
       · simp [hn]
       · simp [hn]
      rw [e];clear e hf h4;go_enter Tryz.func188,Tryz.ntmps188
      go_wp2_with fail
      go_returns;exact ⟨rfl,exx⟩
    · have t1:decide (f ≤ 4)=false:=decide_eq_false h4;have e:cellOk (f,n)=false:=by
       unfold cellOk;rw [if_neg hf];simp only [t1,Bool.false_and]
      rw [e];clear e hf h4;go_enter Tryz.func188,Tryz.ntmps188
      go_wp2_with fail
      go_returns;exact ⟨rfl,exx⟩
theorem nAll1 {w:World} {bx g:Nat} {first cap:Array Value} {x:Int} {b:Bool} (eg:∀ args w,(callFunc g args).run Tryz.prog w = .ok (.enter g args) w) (hc:w.cell? ⟨bx,0,none⟩=some (.func (.func g) first cap))
    (hs:Calls Tryz.prog g (first ++ #[.int .i64 x] ++ cap) w fun e w'=>e = .returned (.bool b) ∧ Ext w w') :
    Calls Tryz.prog 213 #[.int .i64 x,.pointer (some ⟨bx,0,none⟩)] w fun e w'=>e = .returned (.bool (!b)) ∧ Ext w w':=by
  have HS:=Lib.hid hs;clear hs;go_enter Tryz.func213,Tryz.ntmps213
  go_wp2_with (go_at_fn g;refine (Calls.mono HS.out ?_);rintro e w' ⟨rfl,hb'⟩)
  go_returns;exact ⟨rfl,hb'⟩
theorem nAll {w:World} {p:Option Addr} {c g:Nat} {first cap:Array Value} {l:List Int} {is:Int → Bool} {b:Bool} (eg:∀ args w,(callFunc g args).run Tryz.prog w = .ok (.enter g args) w) (h:SliceAt w p c l) (hs:SaysAll w g first cap l is) (hb:l.all is=b) :
    Calls Tryz.prog 189 #[.slice p l.length c,.func (.func g) first cap] w fun e w'=>e = .returned (.bool b) ∧ Ext w w':=by
  rw [all_any] at hb;have key:∀ t,Says (w.alloc (.cells #[.func (.func g) first cap] t)) 213 #[] #[.pointer (some ⟨w.heap.size,0,none⟩)] l (fun x=>!is x):=by
   intro t j x hx hall W hW;have hlt:w.heap.size < (w.alloc (.cells #[.func (.func g) first cap] t)).heap.size:=by simp
   have hc:W.cell? ⟨w.heap.size,0,none⟩=some (.func (.func g) first cap):=by
    rw [hW.cell hlt 0];have:=World.cell?_alloc_mark w #[.func (.func g) first cap] t (0,0) 0;rw [this];rfl
   have:=nAll1 eg hc (hs j x hx (fun i y hi hy=>by simpa using hall i y hi hy) W ((Ext.alloc (Ext.refl w) _).trans hW))
   simpa using this
  have H:=Lib.hid h;have K:=Lib.hid key;clear h hs eg key;subst hb;go_enter Tryz.func189,Tryz.ntmps189
  go_wp2_with (go_at_call 167;refine (sContainsFunc_any (b:=l.any fun x=>!is x) (enters_of Tryz.func213 (by kernel_rfl) rfl) (H.out.ext (Ext.alloc (Ext.refl w) _)) (K.out _) rfl).mono ?_;rintro e w1 ⟨rfl,hb1⟩;obtain ⟨hc1,hf1,hs1⟩:=hb1.cells)
  go_returns;exact ⟨rfl,exx⟩
theorem nAllV1 {w:World} {bx:Nat} (f n:Int) (h0:0 ≤ f) (hn : -9223372036854775808 ≤ n ∧ n ≤ 9223372036854775807) (hc:w.cell? ⟨bx,0,none⟩=some (.func (.func 188) #[] #[])) :
    Calls Tryz.prog 212 #[.agg #[.int .u8 f,.int .i64 n],.pointer (some ⟨bx,0,none⟩)] w fun e w'=>e = .returned (.bool (!cellOk (f,n))) ∧ Ext w w':=by
  have HS:=Lib.hid (fun W=>nIsCell (w:=W) f n h0 hn);have eg:∀ args w,(callFunc 188 args).run Tryz.prog w = .ok (.enter 188 args) w:=enters_of Tryz.func188 (by kernel_rfl) rfl
  generalize cellOk (f,n)=b at *;have zb:=cell_lt hc;go_enter Tryz.func212,Tryz.ntmps212
  go_wp2_with (go_at_fn 188;refine (Calls.mono (HS.out _) ?_);rintro e w' ⟨rfl,hb'⟩)
  go_returns;exact ⟨rfl,exx⟩
def SaysV (w:World) (g:Nat) (cap:Array Value) (E:List (Int × Int)) (q:Int × Int → Bool):Prop:=
 ∀ v ∈ E,∀ W,Ext w W → Calls Tryz.prog g (#[.agg #[.int .u8 v.1,.int .i64 v.2]] ++ cap) W fun e w'=>e = .returned (.bool (q v)) ∧ Ext W w'
def firstV (q:Int × Int → Bool) (l:List (Int × Int)):Int:=match l.findIdx? q with | some i=>i | none=>-1
theorem firstV_hit {l:List (Int × Int)} {q:Int × Int → Bool} {x:Int × Int} {k:Nat} (hk:l[k]? = some x) (hq:q x=true) (h:∀ (i:Nat) y,i < k → l[i]? = some y → q y=false):firstV q l=k:=by
 have e:l.findIdx? q=some k:=by
  rw [List.findIdx?_eq_some_iff_getElem];obtain ⟨hl,he⟩:=List.getElem?_eq_some_iff.1 hk;exact ⟨hl,by rw [he];exact hq,fun j hj=>by rw [h j _ hj (List.getElem?_eq_getElem (by omega))];simp⟩
 simp [firstV,e]
theorem firstV_miss {l:List (Int × Int)} {q:Int × Int → Bool} (h:∀ (i:Nat) y,l[i]? = some y → q y=false):firstV q l = -1:=by
 have e:l.findIdx? q=none:=by
  rw [List.findIdx?_eq_none_iff];intro y hy;obtain ⟨j,hj⟩:=List.mem_iff_getElem?.1 hy;exact h j _ hj
 simp [firstV,e]
theorem firstV_any (q:Int × Int → Bool) (l:List (Int × Int)):decide (0 ≤ firstV q l)=l.any q:=by
 unfold firstV
 cases h:l.findIdx? q with
 | none=>
  have:=List.findIdx?_eq_none_iff.1 h;simp only [show ¬ (0:Int) ≤ -1 by omega,decide_false]
  symm
  rw [List.any_eq_false];intro x hx;rw [this x hx];simp
 | some i=>
  obtain ⟨hl,hq,_⟩:=List.findIdx?_eq_some_iff_getElem.1 h;simp only [Int.natCast_nonneg,decide_true]
  symm
  rw [List.any_eq_true];exact ⟨l[i],List.getElem_mem _,hq⟩
set_option maxHeartbeats 4000000 in
theorem vIndexFunc {w:World} {p:Option Addr} {c g:Nat} {cap:Array Value} {E:List (Int × Int)} {q:Int × Int → Bool} (eg:∀ args w,(callFunc g args).run Tryz.prog w = .ok (.enter g args) w) (h:RdN w 2 p c (E.map endC)) (hs:SaysV w g cap E q) :
    Calls Tryz.prog 223 #[.slice p E.length c,.func (.func g) #[] cap] w fun e w'=>e = .returned (.int .i64 (firstV q E)) ∧ Ext w w':=by
  have hle:=h.le;have hcap:=h.cap;rw [List.length_map] at hle;have H:=Lib.hid h;have HS:=Lib.hid hs;clear h hs;generalize hL:E.length=n at hle ⊢;have HL:=Lib.hid hL;clear hL;go_enter Tryz.func223,Tryz.ntmps223;go_wp2
  go_loopg [8] n (fun gg s8 wr=>∃ kk:Nat,kk ≤ n ∧ n-kk ≤ gg ∧ s8 = .int .i64 kk ∧ Aside (Ext w wr) ∧ Aside (∀ (i:Nat) y,i < kk → E[i]? = some y → q y=false))
  case atStart=>exact ⟨0,Nat.zero_le _,by omega,rfl,Ext.refl w,fun i y hi=>absurd hi (Nat.not_lt_zero _)⟩
  case round=>
   obtain ⟨kk,hkk,hg,rfl,HE,A⟩:=hrel
   by_cases hlt:kk < n
   · obtain ⟨x,hx⟩:=get_list (E:=E) (j:=kk) (by rw [HL.out];exact hlt);obtain ⟨b,o,rfl,hb,hc⟩:=(H.out.ext HE.out).end_cells (by rw [HL.out];omega);obtain ⟨g1,g2⟩:=hc kk x hx;have hcall:=Lib.hid (HS.out x (List.mem_of_getElem? hx) wr HE.out);have HX:=Lib.hid hx;clear hc hx
     cases hq:q x with
     | true=>
      have HQ:=Lib.hid hq;clear hq
      go_wp2_with (go_at_fn g;refine (Calls.mono hcall.out ?_);rintro e w' ⟨rfl,hb'⟩;rw [HQ.out])
      go_returns;exact ⟨by rw [firstV_hit HX.out HQ.out A.out];rfl,HE.out.trans hb'⟩
     | false=>
      have HQ:=Lib.hid hq;clear hq
      go_wp2_with (go_at_fn g;refine (Calls.mono hcall.out ?_);rintro e w' ⟨rfl,hb'⟩;rw [HQ.out])
      go_roundg (n-(kk+1))
      case measure=>omega
      case rel=>
       refine ⟨kk+1,by omega,by omega,by go_num,(show Aside _ from HE.out.trans hb'),(show Aside _ from fun i y hi hy=>?_)⟩
       by_cases e:i=kk
       · subst e;have:=HX.out;rw [hy] at this
         cases this
         exact HQ.out
       · exact A.out i y (by omega) hy
   · have:kk=n:=by omega
     subst this;go_wp2;go_returns;exact ⟨by rw [firstV_miss (fun i y hy=>A.out i y (by have:=(List.getElem?_eq_some_iff.1 hy).1;rw [HL.out] at this;exact this) hy)];rfl,HE.out⟩
theorem vContainsFunc {w:World} {p:Option Addr} {c g:Nat} {cap:Array Value} {E:List (Int × Int)} {q:Int × Int → Bool} {b:Bool} (eg:∀ args w,(callFunc g args).run Tryz.prog w = .ok (.enter g args) w) (h:RdN w 2 p c (E.map endC)) (hs:SaysV w g cap E q) (hb:E.any q=b) :
    Calls Tryz.prog 211 #[.slice p E.length c,.func (.func g) #[] cap] w fun e w'=>e = .returned (.bool b) ∧ Ext w w':=by
  rw [← firstV_any] at hb;have H:=Lib.hid h;have HS:=Lib.hid hs;have EG:=Lib.hid eg;clear h hs eg;subst hb;go_enter Tryz.func211,Tryz.ntmps211
  go_wp2_with (go_at_call 223;refine (vIndexFunc EG.out H.out HS.out).mono ?_;rintro e w1 ⟨rfl,hb1⟩;obtain ⟨hc1,hf1,hs1⟩:=hb1.cells)
  go_returns;exact ⟨rfl,exx⟩
theorem nAllV {w:World} {p:Option Addr} {c:Nat} {E:List (Int × Int)} {b:Bool} (h:RdN w 2 p c (E.map endC)) (hf:∀ v ∈ E,0 ≤ v.1 ∧ -9223372036854775808 ≤ v.2 ∧ v.2 ≤ 9223372036854775807) (hb:E.all cellOk=b) :
    Calls Tryz.prog 187 #[.slice p E.length c,.func (.func 188) #[] #[]] w fun e w'=>e = .returned (.bool b) ∧ Ext w w':=by
  have hb:(!(E.any fun v=>!cellOk v))=b:=by
   rw [← hb,List.all_eq_not_any_not]
  have key:∀ t,SaysV (w.alloc (.cells #[.func (.func 188) #[] #[]] t)) 212 #[.pointer (some ⟨w.heap.size,0,none⟩)] E (fun v=>!cellOk v):=by
   intro t v hv W hW;have hlt:w.heap.size < (w.alloc (.cells #[.func (.func 188) #[] #[]] t)).heap.size:=by simp
   have hc:W.cell? ⟨w.heap.size,0,none⟩=some (.func (.func 188) #[] #[]):=by
    rw [hW.cell hlt 0];have:=World.cell?_alloc_mark w #[.func (.func 188) #[] #[]] t (0,0) 0;rw [this];rfl
   exact nAllV1 v.1 v.2 (hf v hv).1 (hf v hv).2 hc
  have H:=Lib.hid h;have K:=Lib.hid key;clear h hf key;subst hb;go_enter Tryz.func187,Tryz.ntmps187
  go_wp2_with (go_at_call 211;refine (vContainsFunc (b:=E.any fun v=>!cellOk v) (enters_of Tryz.func212 (by kernel_rfl) rfl) (H.out.ext (Ext.alloc (Ext.refl w) _)) (K.out _) rfl).mono ?_;rintro e w1 ⟨rfl,hb1⟩;obtain ⟨hc1,hf1,hs1⟩:=hb1.cells)
  go_returns;exact ⟨rfl,exx⟩
def lsV (L:DgL) (zs os es ns:Nat) (x:Int):Value:=.agg #[.slice L.ps zs L.cs,.slice L.po os L.co,.slice L.ps zs L.cs,.slice L.po os L.co,.slice L.pe es L.ce,.slice L.pn ns L.cn,.int .i64 x]
set_option maxHeartbeats 4000000 in
theorem nEnd {w:World} (k:Int) (h1 : -9223372036854775808 ≤ k) (h2:k < 0) :
    Calls Tryz.prog 198 #[.int .i64 k] w fun e w'=>e = .returned (.int .i64 (-1-k)) ∧ Ext w w':=by
  have s1:IntKind.i64.wrap (-1-k) = -1-k:=IntWalk.i64_in _ (by omega);clear h1 h2;go_enter Tryz.func198,Tryz.ntmps198
  go_wp2_with fail
  go_returns;exact ⟨rfl,exx⟩
set_option maxHeartbeats 4000000 in
theorem nRank {w:World} {s:Value} {q:Option Addr} {c:Nat} {o:List Int} (h:SliceAt w q c o) (v:Int) :
    Calls Tryz.prog 215 #[.agg #[s,.slice q o.length c],.int .i64 v] w fun e w'=>e = .returned (.int .i64 (Hp.index o v)) ∧ Ext w w':=by
  have HI:=Lib.hid (fun W (hE:Ext w W)=>sIndex_any (x:=v) (h.ext hE));clear h;generalize o.length=n at *;generalize Hp.index o v=x at *;go_enter Tryz.func215,Tryz.ntmps215
  go_wp2_with (go_at_call 169;refine (HI.out _ (exx)).mono ?_;rintro e w1 ⟨rfl,hb1⟩;obtain ⟨hc1,hf1,hs1⟩:=hb1.cells)
  go_returns;exact ⟨rfl,exx⟩
def kidN (d:Nd.Dia) (k:Int) (below:Nat) (rk:Int):Bool:=if k < 0 then decide (-1-k < d.ends.length) else decide (k < below) && decide (Hp.index d.order (d.nodeAt k.toNat).1 > rk)
set_option maxRecDepth 100000 in
set_option maxHeartbeats 8000000 in
theorem nIsKid {w:World} {L:DgL} {d:Nd.Dia} (h:DgRd w L d.sizes d.order d.ends d.nodes) (k:Int) (below:Nat) (rk:Int) (hk : -9223372036854775808 ≤ k) (hb:below ≤ d.nodes.length) (hel:d.ends.length ≤ 1000000) :
    Calls Tryz.prog 191 #[lsV L d.sizes.length d.order.length d.ends.length d.nodes.length d.root,.int .i64 k,.int .i64 below,.int .i64 rk] w fun e w'=>e = .returned (.bool (kidN d k below rk)) ∧ Ext w w':=by
  have l3:=h.e.le;have l4:=h.n.le;have c4:=h.n.cap;rw [List.length_map] at l3;rw [zip_nodeC_len h.kl] at l4;have H:=Lib.hid h;have mixed:Tryz.prog.follows .mixedOrders=true:=by kernel_rfl
  unfold lsV
  by_cases h0:k < 0
  · have e:kidN d k below rk=decide (-1-k < (d.ends.length:Int)):=by unfold kidN;rw [if_pos h0]
    rw [e];have tk:decide (k < 0)=true:=decide_eq_true h0;have HE:=Lib.hid (fun W=>nEnd (w:=W) k hk h0);clear e h h0;generalize d.sizes.length=n1 at *;generalize d.order.length=n2 at *;generalize d.ends.length=n3 at *;generalize d.nodes.length=n4 at *;generalize d.root=rt at *;go_enter Tryz.func191,Tryz.ntmps191
    go_wp2_with fail
    refine cut_world (F:=fun W=>Hid (Ext w W) ∧ W.cell? ⟨w.heap.size,4,none⟩=some (.slice L.pe n3 L.ce)) ⟨Lib.hid (exx),by go_simp⟩ ?_;intro w0 ⟨E0,c0⟩;generalize w.heap.size=g at c0 ⊢;have zg:=cell_lt c0
    go_wp2_with fail
    have PR20:=Lib.hid (fun (ww:World) (hSw:Ext w0 ww)=>(hSw.cell zg 4).trans c0);refine wp_region_seq (S:=fun W=>Ext w0 W) (R:=Ext) (by kernel_rfl) Ext.refl ?_ ?_
    · exact exx
    refine' tkL 0 rfl ?h0_1327 ?_
    case h0_1327=>(intro w q;obtain c0':=PR20.out w q;go_simp;try with_reducible rfl)
    refine layy ?_;refine' tkR 1 (v:=.int .i64 (-1-k)) rfl (Or.inr ⟨by rfl,198,_, ?hx1_1328, ?hy1_1328⟩) ?rest1_1328
    case hx1_1328=>(intro w hSw;go_simp;try with_reducible rfl)
    case hy1_1328=>exact fun w hE=>(HE.out _).mono (fun _ _ h=>⟨h.1,h.2,Ext.trans hE h.2⟩)
    refine layy ?_;refine' tkL 2 rfl ?h2_1329 ?_
    case h2_1329=>(intro w q;obtain c0':=PR20.out w q;go_simp;try with_reducible rfl)
    refine layy ?_;refine' tkL 3 rfl ?h3_1330 ?_
    case h3_1330=>(intro w q;obtain c0':=PR20.out w q;go_simp;try with_reducible rfl)
    refine layy ?_;refine' tkL 4 rfl ?h4_1331 ?_
    case h4_1331=>(intro w q;obtain c0':=PR20.out w q;go_simp;try with_reducible rfl)
    refine layy ?_;refine' tkL 5 rfl ?h5_1332 ?_
    case h5_1332=>(intro w q;obtain c0':=PR20.out w q;go_simp;try with_reducible rfl)
    refine layy ?_;refine' tkL 6 rfl ?h6_1333 ?_
    case h6_1333=>(intro w q;obtain c0':=PR20.out w q;go_simp;try with_reducible rfl)
    refine layy ?_;refine' tkL 7 rfl ?h7_1334 ?_
    case h7_1334=>(intro w q;obtain c0':=PR20.out w q;go_simp;try with_reducible rfl)
    refine layy ?_;refine wpAnyR_done (by kernel_rfl) ?_ _;intro x1 _ Ex1
    go_wp2_with fail
    go_returns;exact ⟨rfl,E0.out.trans Ex1⟩
  · have tk:decide (k < 0)=false:=decide_eq_false h0;obtain ⟨m,rfl⟩:∃ m:Nat,k=(m:Int):=⟨k.toNat,by omega⟩
    by_cases hlt:m < below
    · obtain ⟨q,hq⟩:=get_list (E:=d.nodes) (j:=m) (by omega);obtain ⟨kk,hkk⟩:=get_list (E:=L.K) (j:=m) (by rw [h.kl];omega);obtain ⟨b,o,hpn,hnb,hc⟩:=h.node_cells (by omega);have g1:=(hc m q kk hq hkk).1;have hqa:d.nodeAt m=q:=by unfold Nd.Dia.nodeAt;rw [hq];rfl
      have e:kidN d (m:Int) below rk=decide (Hp.index d.order q.1 > rk):=by
       unfold kidN;rw [if_neg h0,decide_eq_true (show (m:Int) < (below:Int) by omega),Bool.true_and,Int.toNat_natCast,hqa]
      have tb:decide ((m:Int) < (below:Int))=true:=decide_eq_true (by omega);have RK:=Lib.hid (fun W (hE:Ext w W)=>nRank (s:=.slice L.ps d.sizes.length L.cs) (h.o.ext hE) q.1);have hm4:m < d.nodes.length:=by omega
      rw [e,hpn];clear e h hq hkk hc hqa hpn h0;generalize q.1=qv at *;generalize Hp.index d.order qv=ix at *;generalize d.sizes.length=n1 at *;generalize d.order.length=n2 at *;generalize d.ends.length=n3 at *;generalize d.nodes.length=n4 at *;generalize d.root=rt at *;go_enter Tryz.func191,Tryz.ntmps191
      go_wp2_with fail
      refine cut_world (F:=fun W=>Hid (Ext w W) ∧ W.cell? ⟨w.heap.size,0,none⟩=some (.slice L.ps n1 L.cs) ∧ W.cell? ⟨w.heap.size,1,none⟩=some (.slice L.po n2 L.co) ∧ W.cell? ⟨w.heap.size,5,none⟩=some (.slice (some ⟨b,o,none⟩) n4 L.cn) ∧ W.cell? ⟨b,o+m * 2,none⟩=some (.int .i64 qv)) ⟨Lib.hid (exx),by go_simp,by go_simp,by go_simp,by go_simp⟩ ?_;intro w0 ⟨E0,c0,c1,c5,g1⟩;generalize w.heap.size=g at c0 c1 c5 ⊢;have zg:=cell_lt c0;have zb:=cell_lt g1
      go_wp2_with fail
      have PR21:=Lib.hid (fun (ww:World) (hSw:Ext w0 ww)=>And.intro ((hSw.cell zg 0).trans c0) (And.intro ((hSw.cell zg 1).trans c1) (And.intro ((hSw.cell zg 5).trans c5) ((hSw.cell zb (o+m * 2)).trans g1))));refine wp_region_seq (S:=fun W=>Ext w0 W) (R:=Ext) (by kernel_rfl) Ext.refl ?_ ?_
      · exact exx
      refine' tkL 0 rfl ?h0_1335 ?_
      case h0_1335=>(intro w q;obtain ⟨c0',c1',c5',g1'⟩:=PR21.out w q;go_simp;try with_reducible rfl)
      refine layy ?_;refine' tkL 1 rfl ?h1_1336 ?_
      case h1_1336=>(intro w q;obtain ⟨c0',c1',c5',g1'⟩:=PR21.out w q;go_simp;try with_reducible rfl)
      refine layy ?_;refine' tkL 2 rfl ?h2_1337 ?_
      case h2_1337=>(intro w q;obtain ⟨c0',c1',c5',g1'⟩:=PR21.out w q;go_simp;try with_reducible rfl)
      refine layy ?_;refine' tkL 3 rfl ?h3_1338 ?_
      case h3_1338=>(intro w q;obtain ⟨c0',c1',c5',g1'⟩:=PR21.out w q;go_simp;try with_reducible rfl)
      refine layy ?_;refine' tkL 4 rfl ?h4_1339 ?_
      case h4_1339=>(intro w q;obtain ⟨c0',c1',c5',g1'⟩:=PR21.out w q;go_simp;try with_reducible rfl)
      refine layy ?_;refine' tkL 5 rfl ?h5_1340 ?_
      case h5_1340=>(intro w q;obtain ⟨c0',c1',c5',g1'⟩:=PR21.out w q;go_simp;try with_reducible rfl)
      refine layy ?_;refine' tkL 6 rfl ?h6_1341 ?_
      case h6_1341=>(intro w q;obtain ⟨c0',c1',c5',g1'⟩:=PR21.out w q;go_simp;try with_reducible rfl)
      refine layy ?_;refine' tkL 7 rfl ?h7_1342 ?_
      case h7_1342=>(intro w q;obtain ⟨c0',c1',c5',g1'⟩:=PR21.out w q;go_simp;try with_reducible rfl)
      refine layy ?_;refine' tkL 8 rfl ?h8_1343 ?_
      case h8_1343=>(intro w q;obtain ⟨c0',c1',c5',g1'⟩:=PR21.out w q;go_simp;try with_reducible rfl)
      refine layy ?_;refine' tkL 9 rfl ?h9_1344 ?_
      case h9_1344=>(intro w q;obtain ⟨c0',c1',c5',g1'⟩:=PR21.out w q;go_simp;try with_reducible rfl)
      refine layy ?_;refine' tkL 10 rfl ?h10_1345 ?_
      case h10_1345=>(intro w q;obtain ⟨c0',c1',c5',g1'⟩:=PR21.out w q;go_simp;try with_reducible rfl)
      refine layy ?_;refine' tkL 11 rfl ?h11_1346 ?_
      case h11_1346=>(intro w q;obtain ⟨c0',c1',c5',g1'⟩:=PR21.out w q;go_simp;try with_reducible rfl)
      refine layy ?_;refine' tkL 12 rfl ?h12_1347 ?_
      case h12_1347=>(intro w q;obtain ⟨c0',c1',c5',g1'⟩:=PR21.out w q;go_simp;try with_reducible rfl)
      refine layy ?_;refine' tkR 13 (v:=.int .i64 ix) rfl (Or.inr ⟨by rfl,215,_, ?hx13_1348, ?hy13_1348⟩) ?rest13_1348
      case hx13_1348=>(intro w hSw;go_simp;try with_reducible rfl)
      case hy13_1348=>exact fun w hE=>(RK.out _ (E0.out.trans hE)).mono (fun _ _ h=>⟨h.1,h.2,Ext.trans hE h.2⟩)
      refine layy ?_;refine' tkL 14 rfl ?h14_1349 ?_
      case h14_1349=>(intro w q;obtain ⟨c0',c1',c5',g1'⟩:=PR21.out w q;go_simp;try with_reducible rfl)
      refine layy ?_;refine' tkL 15 rfl ?h15_1350 ?_
      case h15_1350=>(intro w q;obtain ⟨c0',c1',c5',g1'⟩:=PR21.out w q;go_simp;try with_reducible rfl)
      refine layy ?_;refine' tkL 16 rfl ?h16_1351 ?_
      case h16_1351=>(intro w q;obtain ⟨c0',c1',c5',g1'⟩:=PR21.out w q;go_simp;try with_reducible rfl)
      refine layy ?_;refine' tkL 17 rfl ?h17_1352 ?_
      case h17_1352=>(intro w q;obtain ⟨c0',c1',c5',g1'⟩:=PR21.out w q;go_simp;try with_reducible rfl)
      refine layy ?_;refine wpAnyR_done (by kernel_rfl) ?_ _;intro x1 _ Ex1
      go_wp2_with fail
      go_returns;exact ⟨rfl,E0.out.trans Ex1⟩
    · have e:kidN d (m:Int) below rk=false:=by
        unfold kidN;rw [if_neg h0,decide_eq_false (show ¬ (m:Int) < (below:Int) by omega),Bool.false_and]
      have tb:decide ((m:Int) < (below:Int))=false:=decide_eq_false (by omega);rw [e];clear e h h0;generalize d.sizes.length=n1 at *;generalize d.order.length=n2 at *;generalize d.ends.length=n3 at *;generalize d.nodes.length=n4 at *;generalize d.root=rt at *;go_enter Tryz.func191,Tryz.ntmps191
      go_wp2_with fail
      refine cut_world (F:=fun W=>Hid (Ext w W)) (Lib.hid (exx)) ?_;intro w0 E0;generalize w.heap.size=g
      go_wp2_with fail
      refine wp_region_seq (S:=fun W=>Ext w0 W) (R:=Ext) (by kernel_rfl) Ext.refl ?_ ?_
      · exact exx
      refine' tkL 0 rfl ?h0_1353 ?_
      case h0_1353=>(intro w _;go_simp;try with_reducible rfl)
      refine layy ?_;refine' tkL 1 rfl ?h1_1354 ?_
      case h1_1354=>(intro w _;go_simp;try with_reducible rfl)
      refine layy ?_;refine' tkL 2 rfl ?h2_1355 ?_
      case h2_1355=>(intro w _;go_simp;try with_reducible rfl)
      refine layy ?_;refine' tkL 3 rfl ?h3_1356 ?_
      case h3_1356=>(intro w _;go_simp;try with_reducible rfl)
      refine layy ?_;refine' tkR 4 (v:=undef) rfl (Or.inl (Or.inr ⟨by rfl,rfl⟩)) ?rest4_1357;refine layy ?_;refine' tkR 5 (v:=undef) rfl (Or.inl (Or.inr ⟨by rfl,rfl⟩)) ?rest5_1358;refine layy ?_;refine' tkR 6 (v:=undef) rfl (Or.inl (Or.inr ⟨by rfl,rfl⟩)) ?rest6_1359;refine layy ?_;refine' tkR 7 (v:=undef) rfl (Or.inl (Or.inr ⟨by rfl,rfl⟩)) ?rest7_1360;refine layy ?_;refine' tkR 8 (v:=undef) rfl (Or.inl (Or.inr ⟨by rfl,rfl⟩)) ?rest8_1361;refine layy ?_;refine' tkR 9 (v:=undef) rfl (Or.inl (Or.inr ⟨by rfl,rfl⟩)) ?rest9_1362;refine layy ?_;refine' tkR 10 (v:=undef) rfl (Or.inl (Or.inr ⟨by rfl,rfl⟩)) ?rest10_1363;refine layy ?_;refine' tkR 11 (v:=undef) rfl (Or.inl (Or.inr ⟨by rfl,rfl⟩)) ?rest11_1364;refine layy ?_;refine' tkR 12 (v:=undef) rfl (Or.inl (Or.inr ⟨by rfl,rfl⟩)) ?rest12_1365;refine layy ?_;refine' tkR 13 (v:=undef) rfl (Or.inl (Or.inr ⟨by rfl,rfl⟩)) ?rest13_1366;refine layy ?_;refine' tkR 14 (v:=undef) rfl (Or.inl (Or.inr ⟨by rfl,rfl⟩)) ?rest14_1367;refine layy ?_;refine' tkR 15 (v:=undef) rfl (Or.inl (Or.inr ⟨by rfl,rfl⟩)) ?rest15_1368;refine layy ?_;refine' tkL 16 rfl ?h16_1369 ?_
      case h16_1369=>(intro w _;go_simp;try with_reducible rfl)
      refine layy ?_;refine' tkL 17 rfl ?h17_1370 ?_
      case h17_1370=>(intro w _;go_simp;try with_reducible rfl)
      refine layy ?_;refine wpAnyR_done (by kernel_rfl) ?_ _;intro x1 _ Ex1
      go_wp2_with fail
      go_returns;exact ⟨rfl,E0.out.trans Ex1⟩
structure LsAt (W:World) (g:Nat) (L:DgL) (n1 n2 n3 n4:Nat) (rt:Int):Prop where
 c0:W.cell? ⟨g,0,none⟩=some (.slice L.ps n1 L.cs)
 c1:W.cell? ⟨g,1,none⟩=some (.slice L.po n2 L.co)
 c2:W.cell? ⟨g,2,none⟩=some (.slice L.ps n1 L.cs)
 c3:W.cell? ⟨g,3,none⟩=some (.slice L.po n2 L.co)
 c4:W.cell? ⟨g,4,none⟩=some (.slice L.pe n3 L.ce)
 c5:W.cell? ⟨g,5,none⟩=some (.slice L.pn n4 L.cn)
 c6:W.cell? ⟨g,6,none⟩=some (.int .i64 rt)
theorem LsAt.ext {W W':World} {g:Nat} {L:DgL} {n1 n2 n3 n4:Nat} {rt:Int} (h:LsAt W g L n1 n2 n3 n4 rt) (k:Ext W W'):LsAt W' g L n1 n2 n3 n4 rt:=by
 have z:=cell_lt h.c0
 exact ⟨(k.cell z 0).trans h.c0,(k.cell z 1).trans h.c1,(k.cell z 2).trans h.c2,(k.cell z 3).trans h.c3,(k.cell z 4).trans h.c4,(k.cell z 5).trans h.c5,(k.cell z 6).trans h.c6⟩
set_option maxRecDepth 100000 in
set_option maxHeartbeats 8000000 in
theorem nIsBranch1 {w:World} {L:DgL} {d:Nd.Dia} (h:DgRd w L d.sizes d.order d.ends d.nodes) {gd gn gb:Nat} (k:Int) (i:Nat) (v:Int) (hd:LsAt w gd L d.sizes.length d.order.length d.ends.length d.nodes.length d.root) (hn:w.cell? ⟨gn,0,none⟩=some (.int .i64 (i:Int))) (hb:w.cell? ⟨gb,0,none⟩=some (.int .i64 v))
    (hk : -9223372036854775808 ≤ k) (hi:i ≤ d.nodes.length) (hel:d.ends.length ≤ 1000000) :
    Calls Tryz.prog 214 #[.int .i64 k,.pointer (some ⟨gd,0,none⟩),.pointer (some ⟨gn,0,none⟩),.pointer (some ⟨gb,0,none⟩)] w fun e w'=>e = .returned (.bool (kidN d k i (Hp.index d.order v))) ∧ Ext w w':=by
  have KD:=Lib.hid (fun W (hE:Ext w W)=>nIsKid (h.ext hE) k i (Hp.index d.order v) hk hi hel);have RK:=Lib.hid (fun W (hE:Ext w W)=>nRank (s:=.slice L.ps d.sizes.length L.cs) (h.o.ext hE) v);have HD:=Lib.hid hd;have zd:=cell_lt hd.c0;have zn:=cell_lt hn;have zb:=cell_lt hb;have mixed:Tryz.prog.follows .mixedOrders=true:=by kernel_rfl
  unfold lsV at KD;clear h hd;generalize kidN d k i (Hp.index d.order v)=res at *;generalize Hp.index d.order v=ix at *;generalize d.sizes.length=n1 at *;generalize d.order.length=n2 at *;generalize d.ends.length=n3 at *;generalize d.nodes.length=n4 at *;generalize d.root=rt at *;go_enter Tryz.func214,Tryz.ntmps214
  go_wp2_with fail
  refine wp_region_seq (S:=fun W=>Ext w W) (R:=Ext) (by kernel_rfl) Ext.refl ?_ ?_
  · exact exx
  refine' tkL 0 rfl ?h0_1371 ?_
  case h0_1371=>(intro w hSw;(obtain ⟨s0,s1,s2,s3,s4,s5,s6⟩:=HD.out.ext hSw;have n':=(hSw.cell zn 0).trans hn;have b':=(hSw.cell zb 0).trans hb);go_simp;try with_reducible rfl)
  refine layy ?_;refine' tkL 1 rfl ?h1_1372 ?_
  case h1_1372=>(intro w hSw;(obtain ⟨s0,s1,s2,s3,s4,s5,s6⟩:=HD.out.ext hSw;have n':=(hSw.cell zn 0).trans hn;have b':=(hSw.cell zb 0).trans hb);go_simp;try with_reducible rfl)
  refine layy ?_;refine' tkL 2 rfl ?h2_1373 ?_
  case h2_1373=>(intro w hSw;(obtain ⟨s0,s1,s2,s3,s4,s5,s6⟩:=HD.out.ext hSw;have n':=(hSw.cell zn 0).trans hn;have b':=(hSw.cell zb 0).trans hb);go_simp;try with_reducible rfl)
  refine layy ?_;refine' tkL 3 rfl ?h3_1374 ?_
  case h3_1374=>(intro w hSw;(obtain ⟨s0,s1,s2,s3,s4,s5,s6⟩:=HD.out.ext hSw;have n':=(hSw.cell zn 0).trans hn;have b':=(hSw.cell zb 0).trans hb);go_simp;try with_reducible rfl)
  refine layy ?_;refine' tkL 4 rfl ?h4_1375 ?_
  case h4_1375=>(intro w hSw;(obtain ⟨s0,s1,s2,s3,s4,s5,s6⟩:=HD.out.ext hSw;have n':=(hSw.cell zn 0).trans hn;have b':=(hSw.cell zb 0).trans hb);go_simp;try with_reducible rfl)
  refine layy ?_;refine' tkL 5 rfl ?h5_1376 ?_
  case h5_1376=>(intro w hSw;(obtain ⟨s0,s1,s2,s3,s4,s5,s6⟩:=HD.out.ext hSw;have n':=(hSw.cell zn 0).trans hn;have b':=(hSw.cell zb 0).trans hb);go_simp;try with_reducible rfl)
  refine layy ?_;refine' tkL 6 rfl ?h6_1377 ?_
  case h6_1377=>(intro w hSw;(obtain ⟨s0,s1,s2,s3,s4,s5,s6⟩:=HD.out.ext hSw;have n':=(hSw.cell zn 0).trans hn;have b':=(hSw.cell zb 0).trans hb);go_simp;try with_reducible rfl)
  refine layy ?_;refine' tkR 7 (v:=.int .i64 ix) rfl (Or.inr ⟨by rfl,215,_, ?hx7_1378, ?hy7_1378⟩) ?rest7_1378
  case hx7_1378=>(intro w hSw;go_simp;try with_reducible rfl)
  case hy7_1378=>exact fun w hE=>(RK.out _ hE).mono (fun _ _ h=>⟨h.1,h.2,Ext.trans hE h.2⟩)
  refine layy ?_;refine' tkR 8 (v:=.bool res) rfl (Or.inr ⟨by rfl,191,_, ?hx8_1379, ?hy8_1379⟩) ?rest8_1379
  case hx8_1379=>(intro w hSw;go_simp;try with_reducible rfl)
  case hy8_1379=>exact fun w hE=>(KD.out _ hE).mono (fun _ _ h=>⟨h.1,h.2,Ext.trans hE h.2⟩)
  refine layy ?_;refine' tkL 9 rfl ?h9_1380 ?_
  case h9_1380=>(intro w hSw;(obtain ⟨s0,s1,s2,s3,s4,s5,s6⟩:=HD.out.ext hSw;have n':=(hSw.cell zn 0).trans hn;have b':=(hSw.cell zb 0).trans hb);go_simp;try with_reducible rfl)
  refine layy ?_;refine wpAnyR_done (by kernel_rfl) ?_ _;intro x1 _ Ex1
  go_wp2_with fail
  go_returns;exact ⟨rfl,Ex1⟩
end Go.Proofs.YtdokmmhjmclmnaaGreat
