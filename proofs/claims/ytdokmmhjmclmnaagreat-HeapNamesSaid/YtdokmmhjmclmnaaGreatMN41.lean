/-
  Part 41 of a proof: HN4.
-/
import Derived.Test.YtdokmmhjmclmnaaGreatMN21
import Derived.Test.YtdokmmhjmclmnaaGreatMN29
import Derived.Test.YtdokmmhjmclmnaaGreatMN31
import Derived.Test.YtdokmmhjmclmnaaGreatMN40
set_option linter.unusedSimpArgs false
set_option linter.unusedVariables false
set_option linter.unusedSectionVars false
set_option linter.unnecessarySimpa false
namespace Go.Proofs.YtdokmmhjmclmnaaGreat
open Go.RowKit Go.Maps
set_option maxRecDepth 100000 in
set_option maxHeartbeats 16000000 in
theorem heapNames (w:World):Calls Tryz.prog 13 #[] w fun e w'=>e = .returned (.bool true) ∧ Ext w w':=by
 have SX:∀ (d:Hd) (W:World),HAt W d Aw.S4 → Calls Tryz.prog 21 #[.pointer (some ⟨d.hb,0,none⟩)] W fun e w'=>e = .returned (.tuple #[.agg #[.int .i64 4,.int .i64 0,.int .i64 0,.int .i64 0],.int .i64 0]) ∧ Ext W w':=fun d W h=>by
  have:=Stats_any h Nm.l4 Nm.p4;rw [Nm.g4,Nm.t4] at this;exact this
 have SY:∀ (d:Hd) (W:World),HAt W d Nm.S9 → Calls Tryz.prog 21 #[.pointer (some ⟨d.hb,0,none⟩)] W fun e w'=>e = .returned (.tuple #[.agg #[.int .i64 0,.int .i64 0,.int .i64 22,.int .i64 22],.int .i64 0]) ∧ Ext W w':=fun d W h=>by
  have:=Stats_any h Nm.l9 Nm.p9;rw [Nm.g9,Nm.t9] at this;exact this
 have SXH:=Lib.hid SX
 have SYH:=Lib.hid SY
 clear SX SY
 go_enter Tryz.func13,Tryz.ntmps13
 go_upto_region 2 with (go_at_call 55;refine (pair_any (n:=39) (by omega) (by omega) Aw.ee Aw.e0 Aw.e1 Aw.e2 Aw.e3).mono ?_;rintro e w1 ⟨d,rfl,hA1,o1,E1,s1,s2⟩)
 have A2:HAt (w1.alloc (.cells #[.int .i64 17,.int .i64 22,.int .i64 27] 97)) d Aw.S3:=hA1.ext (Ext.alloc (Ext.refl _) _)
 have X2:Ext w (w1.alloc (.cells #[.int .i64 17,.int .i64 22,.int .i64 27] 97)):=E1.alloc _
 have own1:=hA1.own_lt
 have hx:w1.heap.size ∉ d.own:=fun hm=>by have:=own1 _ hm;omega
 have z2:w1.heap.size < (w1.alloc (.cells #[.int .i64 17,.int .i64 22,.int .i64 27] 97)).heap.size:=by simp
 have b0:(w1.alloc (.cells #[.int .i64 17,.int .i64 22,.int .i64 27] 97)).cell? ⟨w1.heap.size,0,none⟩=some (.int .i64 17):=by simp [go_sem]
 have b1:(w1.alloc (.cells #[.int .i64 17,.int .i64 22,.int .i64 27] 97)).cell? ⟨w1.heap.size,1,none⟩=some (.int .i64 22):=by simp [go_sem]
 have b2:(w1.alloc (.cells #[.int .i64 17,.int .i64 22,.int .i64 27] 97)).cell? ⟨w1.heap.size,2,none⟩=some (.int .i64 27):=by simp [go_sem]
 generalize w1.alloc (.cells #[.int .i64 17,.int .i64 22,.int .i64 27] 97)=w2 at A2 X2 z2 b0 b1 b2 ⊢
 have CXA:=Lib.hid (fun (W:World) (k:But d.own w2 W)=>(⟨(k.cell z2 hx 0).trans b0,(k.cell z2 hx 1).trans b1,(k.cell z2 hx 2).trans b2,Nat.lt_of_lt_of_le z2 k.size⟩:W.cell? ⟨w1.heap.size,0,none⟩=some (.int .i64 17) ∧ W.cell? ⟨w1.heap.size,1,none⟩=some (.int .i64 22) ∧ W.cell? ⟨w1.heap.size,2,none⟩=some (.int .i64 27) ∧ w1.heap.size < W.heap.size))
 have XA:=Lib.hid X2
 have N0:=Lib.hid (Now.refl A2)
 have OA:=Lib.hid o1
 have HXA:=Lib.hid hx
 clear A2 X2 own1 o1 hA1 E1 s1 s2 hx
 have q:SliceAt (w2.alloc (.cells #[.int .i64 27,.int .i64 27] 3)) (some ⟨w2.heap.size,0,none⟩) 2 [27,27]:=SliceAt.two w2 27 27 (by omega) (by omega) _
 have E:Ext w2 (w2.alloc (.cells #[.int .i64 27,.int .i64 27] 3)):=Ext.alloc (Ext.refl _) _
 have M:Calls Tryz.prog 44 #[.pointer (some ⟨d.hb,0,none⟩),.int .i64 0,.slice (some ⟨w2.heap.size,0,none⟩) 2 2] (w2.alloc (.cells #[.int .i64 27,.int .i64 27] 3)) (Added d (w2.alloc (.cells #[.int .i64 27,.int .i64 27] 3)) (27,0,Aw.S3)):=
  Make_any (l:=[27,27]) (N0.out.ext E).toHAt q (fun b o e hm=>by
   cases e
   have:=N0.out.own_lt _ hm;omega) (by omega) (by omega) Nm.m1
 clear q
 go_upto_region 3 with (go_at_call 44;refine M.mono ?_;rintro e x1 ⟨rfl,A⟩)
 have N1:=Lib.hid (Now.mk A.toHAt ((N0.out.but.ext E).trans A.but))
 clear A M E N0 b0 b1 b2 z2
 obtain ⟨b0,b1,b2,z2⟩:=CXA.out _ N1.out.but
 have q:SliceAt (x1.alloc (.cells #[.int .i64 17,.int .i64 27] 3)) (some ⟨x1.heap.size,0,none⟩) 2 [17,27]:=SliceAt.two x1 17 27 (by omega) (by omega) _
 have E:Ext x1 (x1.alloc (.cells #[.int .i64 17,.int .i64 27] 3)):=Ext.alloc (Ext.refl _) _
 have M:Calls Tryz.prog 44 #[.pointer (some ⟨d.hb,0,none⟩),.int .i64 0,.slice (some ⟨x1.heap.size,0,none⟩) 2 2] (x1.alloc (.cells #[.int .i64 17,.int .i64 27] 3)) (Added d (x1.alloc (.cells #[.int .i64 17,.int .i64 27] 3)) (33,0,Aw.S4)):=
  Make_any (l:=[17,27]) (N1.out.ext E).toHAt q (fun b o e hm=>by
   cases e
   have:=N1.out.own_lt _ hm;omega) (by omega) (by omega) Aw.e4
 clear q
 go_upto_region 4 with (go_at_call 44;refine M.mono ?_;rintro e x2 ⟨rfl,A⟩)
 have N2:=Lib.hid (Now.mk A.toHAt ((N1.out.but.ext E).trans A.but))
 clear A M E N1 b0 b1 b2 z2
 obtain ⟨b0,b1,b2,z2⟩:=CXA.out _ N2.out.but
 have q:SliceAt (x2.alloc (.cells #[.int .i64 17,.int .i64 27] 3)) (some ⟨x2.heap.size,0,none⟩) 2 [17,27]:=SliceAt.two x2 17 27 (by omega) (by omega) _
 have E:Ext x2 (x2.alloc (.cells #[.int .i64 17,.int .i64 27] 3)):=Ext.alloc (Ext.refl _) _
 have M:Calls Tryz.prog 45 #[.pointer (some ⟨d.hb,0,none⟩),.int .i64 0,.slice (some ⟨x2.heap.size,0,none⟩) 2 2] (x2.alloc (.cells #[.int .i64 17,.int .i64 27] 3)) fun e w'=>e = .returned (.tuple #[.int .i64 33,.int .i64 0]) ∧ Ext (x2.alloc (.cells #[.int .i64 17,.int .i64 27] 3)) w':=
  Find_any (l:=[17,27]) (r:=(33,0)) (N2.out.ext E).toHAt q (fun b o e hm=>by
   cases e
   have:=N2.out.own_lt _ hm;omega) (by omega) (by omega) Nm.m3
 clear q
 go_upto_region 5 with (go_at_call 45;refine M.mono ?_;rintro e x3 ⟨rfl,A⟩)
 have N3:=Lib.hid ((N2.out.ext E).ext A)
 clear A M E N2 b0 b1 b2 z2
 obtain ⟨b0,b1,b2,z2⟩:=CXA.out _ N3.out.but
 clear b0 b1 b2 z2
 go_upto_region 6 with (go_at_call 21;refine (SXH.out _ _ N3.out.toHAt).mono ?_;rintro e y1 ⟨rfl,E7⟩)
 have a0:(y1.alloc (.cells #[.int .i64 4,.int .i64 0,.int .i64 0,.int .i64 0] 37)).cell? ⟨y1.heap.size,0,none⟩=some (.int .i64 4):=by simp [go_sem]
 have a1:(y1.alloc (.cells #[.int .i64 4,.int .i64 0,.int .i64 0,.int .i64 0] 37)).cell? ⟨y1.heap.size,1,none⟩=some (.int .i64 0):=by simp [go_sem]
 have a2:(y1.alloc (.cells #[.int .i64 4,.int .i64 0,.int .i64 0,.int .i64 0] 37)).cell? ⟨y1.heap.size,2,none⟩=some (.int .i64 0):=by simp [go_sem]
 have a3:(y1.alloc (.cells #[.int .i64 4,.int .i64 0,.int .i64 0,.int .i64 0] 37)).cell? ⟨y1.heap.size,3,none⟩=some (.int .i64 0):=by simp [go_sem]
 have fa:∀ o,(y1.alloc (.cells #[.int .i64 4,.int .i64 0,.int .i64 0,.int .i64 0] 37)).frozen? ⟨y1.heap.size,o,none⟩=false:=by simp [go_sem]
 have za:y1.heap.size < (y1.alloc (.cells #[.int .i64 4,.int .i64 0,.int .i64 0,.int .i64 0] 37)).heap.size:=by simp
 have hle1:w2.heap.size ≤ y1.heap.size:=(N3.out.ext E7).but.size
 have hya:y1.heap.size ∉ d.own:=fun hm=>by
  have h1:=(N3.out.ext E7).own_lt _ hm;omega
 have N10':=((N3.out.ext E7).ext (Ext.alloc (Ext.refl _) (.cells #[.int .i64 4,.int .i64 0,.int .i64 0,.int .i64 0] 37)))
 generalize y1.alloc (.cells #[.int .i64 4,.int .i64 0,.int .i64 0,.int .i64 0] 37)=y2 at *
 have N10:=Lib.hid (Now.refl N10'.toHAt)
 have B2:=Lib.hid N10'.but
 clear N10' N3 E7
 have HYA:=Lib.hid hya
 have HYB:=Lib.hid (show w.heap.size ≤ y1.heap.size from by have:=XA.out.le;have:=hle1;omega)
 clear hya
 have q37:∀ u:World,Sem.run Tryz.prog (Op.equalIn 10000 37 (.agg #[.int .i64 4,.int .i64 0,.int .i64 0,.int .i64 0]) (.agg #[.int .i64 4,.int .i64 0,.int .i64 0,.int .i64 0])) u = .ok true u:=fun u=>by kernel_rfl
 go_upto_region 8 with (fail)
 have A0:=Lib.hid a0
 have A1:=Lib.hid a1
 have A2:=Lib.hid a2
 have A3:=Lib.hid a3
 clear q37 a0 a1 a2 a3
 have YS:=Lib.hid za
 have FA:=Lib.hid fa
 clear za fa
 go_upto_region 10 with (first
  | go_loud (go_at_call 53;refine (Hold_any N10.out.toHAt Aw.e5 (by omega) (by omega)).mono ?_;rintro e y3 ⟨rfl,hA5,hB5⟩;have N11:=Lib.hid (Now.mk hA5 (N10.out.but.trans hB5));clear hA5 hB5 N10)
  | go_loud (go_at_call 46;refine (Drop_any N11.out.toHAt Nm.d5 (by omega) (by omega)).mono ?_;rintro e y4 ⟨rfl,hA5,hB5⟩;have N12:=Lib.hid (Now.mk hA5 (N11.out.but.trans hB5));clear hA5 hB5 N11)
  | go_loud (go_at_call 46;refine (Drop_any N12.out.toHAt Nm.d7 (by omega) (by omega)).mono ?_;rintro e y5 ⟨rfl,hA5,hB5⟩;have N13:=Lib.hid (Now.mk hA5 (N12.out.but.trans hB5));clear hA5 hB5 N12)
  | go_loud (go_at_call 46;refine (Drop_any N13.out.toHAt Nm.d8 (by omega) (by omega)).mono ?_;rintro e y6 ⟨rfl,hA5,hB5⟩;have N14:=Lib.hid (Now.mk hA5 (N13.out.but.trans hB5));clear hA5 hB5 N13)
  | (go_at_call 53;refine (Hold_any N14.out.toHAt Nm.h8 (by omega) (by omega)).mono ?_;rintro e y7 ⟨rfl,hA5,hB5⟩;have N15:=Lib.hid (Now.mk hA5 (N14.out.but.trans hB5));clear hA5 hB5 N14))
 go_upto_region 11 with (go_at_call 47;refine (Collect_any N15.out.toHAt Nm.c9).mono ?_;rintro e y8 ⟨rfl,hA6,hB6⟩)
 have N16:=Lib.hid (Now.mk hA6 (N15.out.but.trans hB6))
 clear hA6 hB6 N15
 have EY:=Lib.hid (But.toExt XA.out (B2.out.trans N16.out.but) (fun b hb=>OA.out b hb))
 have c0:=(N16.out.but.cell YS.out HYA.out 0).trans A0.out
 have c1:=(N16.out.but.cell YS.out HYA.out 1).trans A1.out
 have c2:=(N16.out.but.cell YS.out HYA.out 2).trans A2.out
 have c3:=(N16.out.but.cell YS.out HYA.out 3).trans A3.out
 have f0:∀ o,y8.frozen? ⟨y1.heap.size,o,none⟩=false:=fun o=>(N16.out.but.frozen YS.out HYA.out o).trans (FA.out o)
 have z16:y1.heap.size < y8.heap.size:=Nat.lt_of_lt_of_le YS.out N16.out.but.size
 have zw:w.heap.size ≤ y1.heap.size:=by
  have h1:=HYB.out;exact h1
 clear A0 A1 A2 A3 YS FA HYA B2
 go_upto_region 12 with (go_at_call 21;refine (SYH.out _ _ N16.out.toHAt).mono ?_;rintro e y9 ⟨rfl,E9⟩;have d0:=(E9.cell z16 0).trans c0;have d1:=(E9.cell z16 1).trans c1;have d2:=(E9.cell z16 2).trans c2;have d3:=(E9.cell z16 3).trans c3;have g0:∀ o,y9.frozen? ⟨y1.heap.size,o,none⟩=false:=fun o=>(E9.frozen z16 o).trans (f0 o);have z9:=Nat.lt_of_lt_of_le z16 E9.le;have EZ:=EY.out.trans E9;clear c0 c1 c2 c3 f0 N16 E9)
 refine name_world (F:=fun W=>Ext w W ∧ W.cell? ⟨y1.heap.size,0,none⟩=some (.int .i64 0) ∧ W.cell? ⟨y1.heap.size,1,none⟩=some (.int .i64 0) ∧ W.cell? ⟨y1.heap.size,2,none⟩=some (.int .i64 22) ∧ W.cell? ⟨y1.heap.size,3,none⟩=some (.int .i64 22)) ⟨exx,by go_simp,by go_simp,by go_simp,by go_simp⟩ ?_
 clear EZ d0 d1 d2 d3 g0 z9 z16 EY
 rintro y10 ⟨EY,c0,c1,c2,c3⟩
 have q38:∀ u:World,Sem.run Tryz.prog (Op.equalIn 10000 37 (.agg #[.int .i64 0,.int .i64 0,.int .i64 22,.int .i64 22]) (.agg #[.int .i64 0,.int .i64 0,.int .i64 22,.int .i64 22])) u = .ok true u:=fun u=>by kernel_rfl
 go_upto_region 14 with (fail)
 clear q38 c0 c1 c2 c3 zw
 have EYH:=Lib.hid EY
 clear EY
 go_upto_region 15 with (go_at_call 55;refine (pair_any (n:=40) (by omega) (by omega) Nm.ee Nm.e0 Nm.e1 Nm.e2 Nm.e3).mono ?_;rintro e v1 ⟨h,rfl,hA1,o1,E1,s1,s2⟩)
 have A2:HAt (v1.alloc (.cells #[.int .i64 17,.int .i64 22,.int .i64 27] 97)) h Nm.K3:=hA1.ext (Ext.alloc (Ext.refl _) _)
 have X2:Ext y10 (v1.alloc (.cells #[.int .i64 17,.int .i64 22,.int .i64 27] 97)):=E1.alloc _
 have own1:=hA1.own_lt
 have hx:v1.heap.size ∉ h.own:=fun hm=>by have:=own1 _ hm;omega
 have z2:v1.heap.size < (v1.alloc (.cells #[.int .i64 17,.int .i64 22,.int .i64 27] 97)).heap.size:=by simp
 have b0:(v1.alloc (.cells #[.int .i64 17,.int .i64 22,.int .i64 27] 97)).cell? ⟨v1.heap.size,0,none⟩=some (.int .i64 17):=by simp [go_sem]
 have b1:(v1.alloc (.cells #[.int .i64 17,.int .i64 22,.int .i64 27] 97)).cell? ⟨v1.heap.size,1,none⟩=some (.int .i64 22):=by simp [go_sem]
 have b2:(v1.alloc (.cells #[.int .i64 17,.int .i64 22,.int .i64 27] 97)).cell? ⟨v1.heap.size,2,none⟩=some (.int .i64 27):=by simp [go_sem]
 generalize v1.alloc (.cells #[.int .i64 17,.int .i64 22,.int .i64 27] 97)=v2 at A2 X2 z2 b0 b1 b2 ⊢
 have CXB:=Lib.hid (fun (W:World) (k:But h.own v2 W)=>(⟨(k.cell z2 hx 0).trans b0,(k.cell z2 hx 1).trans b1,(k.cell z2 hx 2).trans b2,Nat.lt_of_lt_of_le z2 k.size⟩:W.cell? ⟨v1.heap.size,0,none⟩=some (.int .i64 17) ∧ W.cell? ⟨v1.heap.size,1,none⟩=some (.int .i64 22) ∧ W.cell? ⟨v1.heap.size,2,none⟩=some (.int .i64 27) ∧ v1.heap.size < W.heap.size))
 have XB:=Lib.hid X2
 have N0:=Lib.hid (Now.refl A2)
 have OB:=Lib.hid o1
 have HXB:=Lib.hid hx
 clear A2 X2 own1 o1 hA1 E1 s1 s2 hx
 have q:SliceAt (v2.alloc (.cells #[.int .i64 17,.int .i64 27] 3)) (some ⟨v2.heap.size,0,none⟩) 2 [17,27]:=SliceAt.two v2 17 27 (by omega) (by omega) _
 have E:Ext v2 (v2.alloc (.cells #[.int .i64 17,.int .i64 27] 3)):=Ext.alloc (Ext.refl _) _
 have M:Calls Tryz.prog 44 #[.pointer (some ⟨h.hb,0,none⟩),.int .i64 0,.slice (some ⟨v2.heap.size,0,none⟩) 2 2] (v2.alloc (.cells #[.int .i64 17,.int .i64 27] 3)) (Added h (v2.alloc (.cells #[.int .i64 17,.int .i64 27] 3)) (0,8,Nm.K3)):=
  Make_any (l:=[17,27]) (N0.out.ext E).toHAt q (fun b o e hm=>by
   cases e
   have:=N0.out.own_lt _ hm;omega) (by omega) (by omega) Nm.k1
 clear q
 go_upto_region 16 with (go_at_call 44;refine M.mono ?_;rintro e x4 ⟨rfl,A⟩)
 have N4:=Lib.hid (Now.mk A.toHAt ((N0.out.but.ext E).trans A.but))
 clear A M E N0 b0 b1 b2 z2
 obtain ⟨b0,b1,b2,z2⟩:=CXB.out _ N4.out.but
 have q:SliceAt (x4.alloc (.cells #[.int .i64 27,.int .i64 17] 3)) (some ⟨x4.heap.size,0,none⟩) 2 [27,17]:=SliceAt.two x4 27 17 (by omega) (by omega) _
 have E:Ext x4 (x4.alloc (.cells #[.int .i64 27,.int .i64 17] 3)):=Ext.alloc (Ext.refl _) _
 have M:Calls Tryz.prog 44 #[.pointer (some ⟨h.hb,0,none⟩),.int .i64 1,.slice (some ⟨x4.heap.size,0,none⟩) 2 2] (x4.alloc (.cells #[.int .i64 27,.int .i64 17] 3)) (Added h (x4.alloc (.cells #[.int .i64 27,.int .i64 17] 3)) (0,2,Nm.K3)):=
  Make_any (l:=[27,17]) (N4.out.ext E).toHAt q (fun b o e hm=>by
   cases e
   have:=N4.out.own_lt _ hm;omega) (by omega) (by omega) Nm.k2
 clear q
 go_upto_region 17 with (go_at_call 44;refine M.mono ?_;rintro e x5 ⟨rfl,A⟩)
 have N5:=Lib.hid (Now.mk A.toHAt ((N4.out.but.ext E).trans A.but))
 clear A M E N4 b0 b1 b2 z2
 obtain ⟨b0,b1,b2,z2⟩:=CXB.out _ N5.out.but
 have q:SliceAt (x5.alloc (.cells #[.int .i64 17] 3)) (some ⟨x5.heap.size,0,none⟩) 1 [17]:=SliceAt.one x5 17 (by omega) (by omega) _
 have E:Ext x5 (x5.alloc (.cells #[.int .i64 17] 3)):=Ext.alloc (Ext.refl _) _
 have M:Calls Tryz.prog 44 #[.pointer (some ⟨h.hb,0,none⟩),.int .i64 0,.slice (some ⟨x5.heap.size,0,none⟩) 1 1] (x5.alloc (.cells #[.int .i64 17] 3)) (Added h (x5.alloc (.cells #[.int .i64 17] 3)) (0,4,Nm.K3)):=
  Make_any (l:=[17]) (N5.out.ext E).toHAt q (fun b o e hm=>by
   cases e
   have:=N5.out.own_lt _ hm;omega) (by omega) (by omega) Nm.k3
 clear q
 go_upto_region 18 with (go_at_call 44;refine M.mono ?_;rintro e x6 ⟨rfl,A⟩)
 have N6:=Lib.hid (Now.mk A.toHAt ((N5.out.but.ext E).trans A.but))
 clear A M E N5 b0 b1 b2 z2
 obtain ⟨b0,b1,b2,z2⟩:=CXB.out _ N6.out.but
 have q:SliceAt (x6.alloc (.cells #[.int .i64 17,.int .i64 18] 3)) (some ⟨x6.heap.size,0,none⟩) 2 [17,18]:=SliceAt.two x6 17 18 (by omega) (by omega) _
 have E:Ext x6 (x6.alloc (.cells #[.int .i64 17,.int .i64 18] 3)):=Ext.alloc (Ext.refl _) _
 have M:Calls Tryz.prog 44 #[.pointer (some ⟨h.hb,0,none⟩),.int .i64 0,.slice (some ⟨x6.heap.size,0,none⟩) 2 2] (x6.alloc (.cells #[.int .i64 17,.int .i64 18] 3)) (Added h (x6.alloc (.cells #[.int .i64 17,.int .i64 18] 3)) (0,7,Nm.K3)):=
  Make_any (l:=[17,18]) (N6.out.ext E).toHAt q (fun b o e hm=>by
   cases e
   have:=N6.out.own_lt _ hm;omega) (by omega) (by omega) Nm.k4
 clear q
 go_upto_region 19 with (go_at_call 44;refine M.mono ?_;rintro e x7 ⟨rfl,A⟩)
 have N7:=Lib.hid (Now.mk A.toHAt ((N6.out.but.ext E).trans A.but))
 clear A M E N6 b0 b1 b2 z2
 obtain ⟨b0,b1,b2,z2⟩:=CXB.out _ N7.out.but
 have q:SliceAt (x7.alloc (.cells #[.int .i64 17,.int .i64 22] 3)) (some ⟨x7.heap.size,0,none⟩) 2 [17,22]:=SliceAt.two x7 17 22 (by omega) (by omega) _
 have E:Ext x7 (x7.alloc (.cells #[.int .i64 17,.int .i64 22] 3)):=Ext.alloc (Ext.refl _) _
 have M:Calls Tryz.prog 44 #[.pointer (some ⟨h.hb,0,none⟩),.int .i64 2,.slice (some ⟨x7.heap.size,0,none⟩) 2 2] (x7.alloc (.cells #[.int .i64 17,.int .i64 22] 3)) (Added h (x7.alloc (.cells #[.int .i64 17,.int .i64 22] 3)) (0,3,Nm.K3)):=
  Make_any (l:=[17,22]) (N7.out.ext E).toHAt q (fun b o e hm=>by
   cases e
   have:=N7.out.own_lt _ hm;omega) (by omega) (by omega) Nm.k5
 clear q
 go_upto_region 20 with (go_at_call 44;refine M.mono ?_;rintro e x8 ⟨rfl,A⟩)
 have N8:=Lib.hid (Now.mk A.toHAt ((N7.out.but.ext E).trans A.but))
 clear A M E N7 b0 b1 b2 z2
 obtain ⟨b0,b1,b2,z2⟩:=CXB.out _ N8.out.but
 clear b0 b1 b2 z2
 go_upto_region 21 with (go_at_call 43;refine (End_any N8.out.toHAt (f:=0) (by omega) (by omega) (by omega) Nm.k6).mono ?_;rintro e x9 ⟨rfl,A⟩)
 have N9:=Lib.hid (Now.mk A.toHAt (N8.out.but.trans A.but))
 clear A N8
 obtain ⟨b0,b1,b2,z2⟩:=CXB.out _ N9.out.but
 have q:SliceAt (x9.alloc (.cells #[.int .i64 22,.int .i64 17] 3)) (some ⟨x9.heap.size,0,none⟩) 2 [22,17]:=SliceAt.two x9 22 17 (by omega) (by omega) _
 have E:Ext x9 (x9.alloc (.cells #[.int .i64 22,.int .i64 17] 3)):=Ext.alloc (Ext.refl _) _
 have M:Calls Tryz.prog 45 #[.pointer (some ⟨h.hb,0,none⟩),.int .i64 1,.slice (some ⟨x9.heap.size,0,none⟩) 2 2] (x9.alloc (.cells #[.int .i64 22,.int .i64 17] 3)) fun e w'=>e = .returned (.tuple #[.int .i64 0,.int .i64 7]) ∧ Ext (x9.alloc (.cells #[.int .i64 22,.int .i64 17] 3)) w':=
  Find_any (l:=[22,17]) (r:=(0,7)) (N9.out.ext E).toHAt q (fun b o e hm=>by
   cases e
   have:=N9.out.own_lt _ hm;omega) (by omega) (by omega) Nm.k7
 clear q
 go_upto_region 22 with (go_at_call 45;refine M.mono ?_;rintro e x10 ⟨rfl,A⟩)
 have N10:=Lib.hid ((N9.out.ext E).ext A)
 clear A M E N9 b0 b1 b2 z2
 obtain ⟨b0,b1,b2,z2⟩:=CXB.out _ N10.out.but
 go_upto_region 23 with (go_at_call 23;refine (Diagram_none N10.out.toHAt Nm.k8 (by omega) (by omega)).mono ?_;rintro e x11 ⟨rfl,A⟩)
 have N11':=Lib.hid ((N10.out.ext A).ext (Ext.alloc (Ext.refl _) (.cells #[.slice none 0 0,.slice none 0 0,.slice none 0 0,.slice none 0 0,.int .i64 0] 49)))
 clear A N10 b0 b1 b2 z2
 refine Now.cut N11'.out ?_
 clear N11'
 intro u1 N11'
 have N11:=Lib.hid N11'
 clear N11'
 obtain ⟨b0,b1,b2,z2⟩:=CXB.out _ N11.out.but
 obtain ⟨gB,hgood⟩:=Nm.kg
 obtain ⟨gL,gch,hwf⟩:=hgood
 have DX:=Lib.hid (fun (W:World) (hA:HAt W h Nm.K3)=>(by
  refine (Diagram_any hA hwf Nm.kt Nm.k9).mono fun e W' he=>?_
  unfold DiagPost at he;rw [Nm.kE,Nm.kN,Nm.ks,Nm.ko] at he;exact he:Calls Tryz.prog 23 #[.pointer (some ⟨h.hb,0,none⟩),.int .i64 27] W fun e w'=>∃ L:DgL,e = .returned (.tuple #[.agg #[.slice L.ps 2 L.cs,.slice L.po 2 L.co,.slice L.pe 2 L.ce,.slice L.pn 1 L.cn,.int .i64 0],.int .i64 0]) ∧ DgRd w' L [2,2] [0,1] [(0,5),(0,7)] [(1,[-1,-2])] ∧ Ext W w' ∧ ∀ b ∈ L.blocks,W.heap.size ≤ b ∧ b < w'.heap.size))
 clear hwf
 go_upto_region 24 with (go_at_call 23;refine (DX.out _ N11.out.toHAt).mono ?_;rintro e u2 ⟨L,rfl,DR,E2,BL⟩)
 have W3:∀ o v,#[Value.slice L.ps 2 L.cs,.slice L.po 2 L.co,.slice L.pe 2 L.ce,.slice L.pn 1 L.cn,.int .i64 0][o]? = some v → (u2.alloc (.cells #[.slice L.ps 2 L.cs,.slice L.po 2 L.co,.slice L.pe 2 L.ce,.slice L.pn 1 L.cn,.int .i64 0] 49)).cell? ⟨u2.heap.size,o,none⟩=some v:=fun o v hv=>by
  have e:=World.alloc_heap_new u2 (.cells #[.slice L.ps 2 L.cs,.slice L.po 2 L.co,.slice L.pe 2 L.ce,.slice L.pn 1 L.cn,.int .i64 0] 49);simp only [World.cell?,e];exact hv
 have d0:=W3 0 _ rfl
 have d1:=W3 1 _ rfl
 have d2:=W3 2 _ rfl
 have d3:=W3 3 _ rfl
 have d4:=W3 4 _ rfl
 have E3:Ext u2 (u2.alloc (.cells #[.slice L.ps 2 L.cs,.slice L.po 2 L.co,.slice L.pe 2 L.ce,.slice L.pn 1 L.cn,.int .i64 0] 49)):=Ext.alloc (Ext.refl _) _
 have z3:u2.heap.size < (u2.alloc (.cells #[.slice L.ps 2 L.cs,.slice L.po 2 L.co,.slice L.pe 2 L.ce,.slice L.pn 1 L.cn,.int .i64 0] 49)).heap.size:=by simp
 generalize u2.alloc (.cells #[.slice L.ps 2 L.cs,.slice L.po 2 L.co,.slice L.pe 2 L.ce,.slice L.pn 1 L.cn,.int .i64 0] 49)=u3 at *
 have NU:=Lib.hid ((N11.out.ext E2).ext E3)
 have DR3:=DR.ext E3
 have far:∀ b ∈ h.own,b < u1.heap.size:=N11.out.own_lt
 have hx3:u2.heap.size ∉ h.own:=fun hm=>by have h1:=far _ hm;have h2:=E2.le;omega
 have hbl:∀ b ∈ h.own,b ∉ L.blocks:=fun b hb hm=>by have h1:=far _ hb;have h2:=(BL b hm).1;omega
 obtain ⟨b0,b1,b2,z2⟩:=CXB.out _ NU.out.but
 have hxB:v1.heap.size ∉ h.own:=HXB.out
 have C3:=Lib.hid (fun (W:World) (k:But h.own u3 W)=>(⟨(k.cell z2 hxB 2).trans b2,(k.cell z3 hx3 0).trans d0,(k.cell z3 hx3 1).trans d1,(k.cell z3 hx3 2).trans d2,(k.cell z3 hx3 3).trans d3,(k.cell z3 hx3 4).trans d4,DR3.but k hbl,Nat.lt_of_lt_of_le z2 k.size,Nat.lt_of_lt_of_le z3 k.size⟩:W.cell? ⟨v1.heap.size,2,none⟩=some (.int .i64 27) ∧ W.cell? ⟨u2.heap.size,0,none⟩=some (.slice L.ps 2 L.cs) ∧ W.cell? ⟨u2.heap.size,1,none⟩=some (.slice L.po 2 L.co) ∧ W.cell? ⟨u2.heap.size,2,none⟩=some (.slice L.pe 2 L.ce) ∧ W.cell? ⟨u2.heap.size,3,none⟩=some (.slice L.pn 1 L.cn) ∧ W.cell? ⟨u2.heap.size,4,none⟩=some (.int .i64 0) ∧ DgRd W L [2,2] [0,1] [(0,5),(0,7)] [(1,[-1,-2])] ∧ v1.heap.size < W.heap.size ∧ u2.heap.size < W.heap.size))
 have EV:=Lib.hid (EYH.out.trans (But.toExt XB.out NU.out.but (fun b hb=>OB.out b hb)))
 have OV:∀ b ∈ h.own,w.heap.size ≤ b:=fun b hb=>by have h1:=OB.out b hb;have h2:=EYH.out.le;omega
 have OVH:=Lib.hid OV
 have PU:=Lib.hid (put_27 NU.out.toHAt DR3 (fun b hb=>⟨by have h1:=(BL b hb).2;have h2:=E3.le;omega,fun hm=>hbl b hm hb⟩))
 have M0:=Lib.hid (Now.refl NU.out.toHAt)
 clear NU N11 E2 E3 BL DR DR3 far hbl hx3 hxB W3 b0 b1 b2 z2 z3 OV DX
 go_upto_region 25 with (go_at_call 37;refine PU.out.mono ?_;rintro e u4 ⟨rfl,A⟩)
 have M1:=Lib.hid (Now.mk A.toHAt (M0.out.but.trans A.but))
 clear A M0 PU d0 d1 d2 d3 d4
 have E:=Ext.alloc (Ext.refl u4) (.cells #[.int .u8 0,.int .i64 0] 43)
 have PA:=Lib.hid (put_two (w:=u4) (M1.out.ext E).toHAt)
 go_upto_region 26 with (go_at_call 37;refine PA.out.mono ?_;rintro e u5 ⟨rfl,A⟩)
 have M2:=Lib.hid (Now.mk A.toHAt ((M1.out.but.ext E).trans A.but))
 clear A M1 PA E
 go_upto_region 27 with (go_at_call 36;refine (new_three u5).mono ?_;rintro e u6 ⟨rfl,A⟩)
 have E:Ext u5 u6:=exx
 have M3:=Lib.hid (M2.out.ext E)
 clear A E M2
 go_upto_region 28 with (go_at_call 36;refine (new_four u6).mono ?_;rintro e u7 ⟨rfl,A⟩)
 have E:Ext u6 u7:=exx
 have M4:=Lib.hid (M3.out.ext E)
 clear A E M3
 have hmk:∀ W:World,(Instr.makeSlice 22 (.int .i64 32) (.int .i64 32)).run Tryz.prog W = .ok (.slice (some ⟨W.heap.size,0,none⟩) 32 32) (W.alloc (.cells (madeCells #[.int .i64 0] 32) 3)):=fun W=>run_make_row' (P:=Tryz.prog) 22 3 (.int .i64 0) 8 Tryz.underlying22 (show (Tryz.prog.info? 3).map (fun i=>(i.zero,i.size,i.bytes))=some (some (.int .i64 0),1,8) from by kernel_rfl) rfl .i64 .i64 32 (by omega) (by omega) W
 go_upto_region 29 with go_loud (go_at_call 16;refine (load_four u7).mono ?_;rintro e u8 ⟨rfl,A⟩)
 have E:Ext u7 u8:=exx
 have M5:=Lib.hid (M4.out.ext E)
 clear A E M4 hmk
 go_upto_region 31 with (go_at_call 47;refine (Collect_nil _).mono ?_;rintro e u9 ⟨rfl,A⟩)
 have M6:=Lib.hid (M5.out.ext A)
 clear A M5
 go_upto_region 32 with (go_at_call 22;refine (At_bare (by go_simp) 17).mono ?_;rintro e ua ⟨rfl,A⟩)
 have E:=(show Ext u9 _ from exx:Ext u9 ((ua.alloc (.cells #[.int .i64 0,.slice none 0 0] 41)).alloc (.cells #[.int .u8 0,.int .i64 0] 43)))
 have M7:=Lib.hid (M6.out.ext E)
 clear A E M6
 refine Now.cut M7.out ?_
 clear M7
 intro ub M7'
 have M7:=Lib.hid M7'
 clear M7'
 go_upto_region 33 with (go_at_call 51;refine (Compact_any M7.out.toHAt Nm.co).mono ?_;rintro e uc ⟨gC,pC,kC,rfl,-,BC,-,-,-⟩)
 have BU:=M7.out.but.trans BC
 obtain ⟨b2,d0,d1,d2,d3,d4,DR,zb,zd⟩:=C3.out _ BU
 have EF:=Lib.hid (But.toExt EV.out BU (fun b hb=>OVH.out b hb))
 have EQ:=Lib.hid (dEqual_loop (x:=0) (DR.ext (litW_ext uc)) (lit_d uc) rfl)
 have b2':=((litW_ext uc).cell zb 2).trans b2
 have zb':=Nat.lt_of_lt_of_le zb (litW_ext uc).le
 have B2H:=Lib.hid b2'
 have ZBH:=Lib.hid zb'
 clear M7 BU BC b2 b2' zb zb' DR C3 EV OVH
 go_wp2_with (first
  | go_loud (go_at_call 27;refine EQ.out.mono ?_;rintro e ud ⟨rfl,ED⟩;have b2:=(ED.cell ZBH.out 2).trans B2H.out)
  | (go_at_call 53;refine (Hold_nil 1 _).mono ?_;rintro e ue ⟨rfl,EE⟩)
  | (go_at_call 15;refine (awake_any _).mono ?_;rintro e uf ⟨rfl,EG⟩))
 go_returns
 refine ⟨rfl,EF.out.trans ((litW_ext uc).trans ?_)⟩
 exact exx
end Go.Proofs.YtdokmmhjmclmnaaGreat
