/-
  Part 29 of a proof: HFn34.
-/
import Derived.Test.YtdokmmhjmclmnaaGreatMN22
import Derived.Test.YtdokmmhjmclmnaaGreatMN23
set_option linter.unusedSimpArgs false
set_option linter.unusedVariables false
set_option linter.unusedSectionVars false
set_option linter.unnecessarySimpa false
namespace Go.Proofs.YtdokmmhjmclmnaaGreat
open Go.RowKit Go.Maps
theorem SliceAt.drop_ {w:World} {g o c k:Nat} {l:List Int} (h:SliceAt w (some ⟨g,o,none⟩) c l) (hk:k < l.length):SliceAt w (some ⟨g,o+k,none⟩) (c-k) (l.drop k):=by
 obtain ⟨b,o',e,hb,hc⟩:=h.cells (by omega)
 cases e
 have h1:=h.le
 have h2:=h.cap
 refine ⟨by rw [List.length_drop];omega,by omega,fun x hx=>h.wf x (List.mem_of_mem_drop hx),fun _=>⟨g,o+k,rfl,hb,fun j x hx=>?_⟩⟩
 have:Hp.rd l (k+j)=some x:=by
  unfold Hp.rd at hx ⊢
  rwa [List.getElem?_drop] at hx
 rw [Nat.add_assoc]
 exact hc _ _ this
theorem lit_ints {w:World} {l:List Int} (hl:∀ x ∈ l,-9223372036854775808 ≤ x ∧ x ≤ 9223372036854775807) (hn:l.length ≤ 1000000) (t:TypeId):SliceAt (w.alloc (.cells (ints l).toArray t)) (some ⟨w.heap.size,0,none⟩) l.length l:=by
 refine ⟨Nat.le_refl _,by omega,hl,fun _=>⟨w.heap.size,0,rfl,by simp,fun j x hx=>?_⟩⟩
 have:(ints l)[j]? = some (.int .i64 x):=by
  unfold Hp.rd at hx;simp [ints,hx]
 have e:=World.alloc_heap_new w (.cells (ints l).toArray t)
 simp only [World.cell?,e]
 simpa using this
theorem HAt.box {w:World} {d:Hd} {S:Hp.Hs} {g:Nat} {v:Value} {o:Nat} (h:HAt w d S) (ho:∀ b ∈ d.own,b < g) (h1:∀ b o,d.sp=some ⟨b,o,none⟩ → b < g) (h2:∀ b o,d.op=some ⟨b,o,none⟩ → b < g):HAt (w.setCell ⟨g,o,none⟩ v) d S:=
 h.but ((But.refl [g] _).setCell (.inl (by simp)) _) (by have:=ho _ d.hb_own;simp;omega) (by have:=ho _ d.gw_own;simp;omega) (by have:=ho _ d.gm_own;simp;omega) (fun b o e=>by have:=h1 b o e;simp;omega) (fun b o e=>by have:=h2 b o e;simp;omega)
set_option maxRecDepth 100000 in
set_option maxHeartbeats 16000000 in
theorem awake_any (w:World):Calls Tryz.prog 15 #[] w fun e w'=>e = .returned (.bool true) ∧ Ext w w':=by
 have L16:(Aw.S4.words.drop 16).length=23:=by kernel_rfl
 have SM:∀ (W:World) (p q:Option Addr) (c d:Nat),SliceAt W p c (Aw.S4.words.drop 16) → SliceAt W q d lastWords → Calls Tryz.prog 24 #[.slice p 23 c,.slice q 23 d] W fun e w'=>e = .returned (.bool true) ∧ Ext W w':=fun W p q c d h k=>by
  have:=dSame_is Aw.es h k;rw [L16,show lastWords.length=23 from rfl] at this;exact this
 have SK:∀ (W:World) (p q:Option Addr) (c d:Nat),SliceAt W p c [17,22] → SliceAt W q d [17,22] → Calls Tryz.prog 24 #[.slice p 2 c,.slice q 2 d] W fun e w'=>e = .returned (.bool true) ∧ Ext W w':=fun W p q c d h k=>by
  have:=dSame_is (b:=true) (l:=[17,22]) (m:=[17,22]) rfl h k;exact this
 have WX:∀ {d:Hd} (W:World),HAt W d Aw.S4 → Calls Tryz.prog 20 #[.pointer (some ⟨d.hb,0,none⟩)] W fun e w'=>∃ g c,e = .returned (.tuple #[.slice (some ⟨g,0,none⟩) 39 c,.int .i64 0]) ∧ Row w' W.heap.size (some ⟨g,0,none⟩) c Aw.S4.words ∧ Ext W w':=fun {d} W h=>by
  have:=Words_any h (by rw [Aw.ew];omega);unfold WordsPost at this;rw [Aw.ew] at this;exact this
 have SX:∀ {d:Hd} (W:World),HAt W d Aw.S6 → Calls Tryz.prog 21 #[.pointer (some ⟨d.hb,0,none⟩)] W fun e w'=>e = .returned (.tuple #[.agg #[.int .i64 3,.int .i64 3,.int .i64 6,.int .i64 6],.int .i64 0]) ∧ Ext W w':=fun {d} W h=>by
  have:=Stats_any h Aw.el Aw.ep;rw [Aw.eg,Aw.et] at this;exact this
 have SMH:=Lib.hid SM
 have SKH:=Lib.hid SK
 clear SM SK L16
 go_enter Tryz.func15,Tryz.ntmps15
 go_upto_region 2 with (go_at_call 55;refine (pair_any (n:=39) (by omega) (by omega) Aw.ee Aw.e0 Aw.e1 Aw.e2 Aw.e3).mono ?_;rintro e w1 ⟨d,rfl,hA1,o1,E1,s1,s2⟩)
 have A2:HAt (w1.alloc (.cells #[.int .i64 17,.int .i64 22,.int .i64 27] 97)) d Aw.S3:=hA1.ext (Ext.alloc (Ext.refl _) _)
 have X2:Ext w (w1.alloc (.cells #[.int .i64 17,.int .i64 22,.int .i64 27] 97)):=E1.alloc _
 have own1:=hA1.own_lt
 have hx:w1.heap.size ∉ d.own:=fun hm=>by have:=own1 _ hm;omega
 have z2:w1.heap.size < (w1.alloc (.cells #[.int .i64 17,.int .i64 22,.int .i64 27] 97)).heap.size:=by simp
 have b0:(w1.alloc (.cells #[.int .i64 17,.int .i64 22,.int .i64 27] 97)).cell? ⟨w1.heap.size,0,none⟩=some (.int .i64 17):=by simp [go_sem]
 have b1:(w1.alloc (.cells #[.int .i64 17,.int .i64 22,.int .i64 27] 97)).cell? ⟨w1.heap.size,1,none⟩=some (.int .i64 22):=by simp [go_sem]
 have b2:(w1.alloc (.cells #[.int .i64 17,.int .i64 22,.int .i64 27] 97)).cell? ⟨w1.heap.size,2,none⟩=some (.int .i64 27):=by simp [go_sem]
 generalize w1.alloc (.cells #[.int .i64 17,.int .i64 22,.int .i64 27] 97)=w2 at A2 X2 z2 b0 b1 b2 ⊢
 have CX:=Lib.hid (fun (W:World) (k:But d.own w2 W)=>(⟨(k.cell z2 hx 0).trans b0,(k.cell z2 hx 1).trans b1,(k.cell z2 hx 2).trans b2,Nat.lt_of_lt_of_le z2 k.size⟩:W.cell? ⟨w1.heap.size,0,none⟩=some (.int .i64 17) ∧ W.cell? ⟨w1.heap.size,1,none⟩=some (.int .i64 22) ∧ W.cell? ⟨w1.heap.size,2,none⟩=some (.int .i64 27) ∧ w1.heap.size < W.heap.size))
 have X2H:=Lib.hid X2
 have N2:=Lib.hid (Now.refl A2)
 have O1:=Lib.hid o1
 have OW:=Lib.hid own1
 have q3:SliceAt (w2.alloc (.cells #[.int .i64 17,.int .i64 27] 3)) (some ⟨w2.heap.size,0,none⟩) 2 [17,27]:=SliceAt.two w2 17 27 (by omega) (by omega) _
 have E3:Ext w2 (w2.alloc (.cells #[.int .i64 17,.int .i64 27] 3)):=Ext.alloc (Ext.refl _) _
 have M3:Calls Tryz.prog 44 #[.pointer (some ⟨d.hb,0,none⟩),.int .i64 0,.slice (some ⟨w2.heap.size,0,none⟩) 2 2] (w2.alloc (.cells #[.int .i64 17,.int .i64 27] 3)) (Added d (w2.alloc (.cells #[.int .i64 17,.int .i64 27] 3)) (33,0,Aw.S4)):=
  Make_any (l:=[17,27]) (N2.out.ext E3).toHAt q3 (fun b o e hm=>by
   cases e
   have:=N2.out.own_lt _ hm;omega) (by omega) (by omega) Aw.e4
 clear q3 A2 X2 own1 o1 hA1 E1 s1 s2 hx
 go_upto_region 3 with (go_at_call 44;refine M3.mono ?_;rintro e w3 ⟨rfl,A3⟩)
 have N3:=Lib.hid (Now.mk A3.toHAt ((N2.out.but.ext E3).trans A3.but))
 clear A3 M3 N2 E3 b0 b1 b2 z2
 go_upto_region 4 with (go_at_call 20;refine (WX _ N3.out.toHAt).mono ?_;rintro e w4 ⟨gW,cW,rfl,RW,E4⟩)
 have N4:=Lib.hid (N3.out.ext E4)
 have RW4:=Lib.hid RW
 have W34:=E4.le
 have Z3:=(CX.out _ N3.out.but).2.2.2
 clear RW N3 E4
 obtain ⟨-,-,b2,z2⟩:=CX.out _ N4.out.but
 go_upto_region 5 with (go_at_call 53;refine (Hold_any N4.out.toHAt Aw.e5 (by omega) (by omega)).mono ?_;rintro e w5 ⟨rfl,hA5,hB5⟩)
 have N5:=Lib.hid (Now.mk hA5 (N4.out.but.trans hB5))
 have RW5:=Lib.hid (RW4.out.but hB5 (fun b hb=>by have:=OW.out b hb;omega))
 clear hA5 hB5 N4 RW4 b2
 go_upto_region 6 with (go_at_call 47;refine (Collect_any N5.out.toHAt Aw.e6).mono ?_;rintro e w6 ⟨rfl,hA6,hB6⟩)
 have N6:=Lib.hid (Now.mk hA6 (N5.out.but.trans hB6))
 have RW6:=Lib.hid (RW5.out.but hB6 (fun b hb=>by have:=OW.out b hb;omega))
 clear hA6 hB6 N5 RW5
 go_upto_region 7 with (go_at_call 21;refine (SX _ N6.out.toHAt).mono ?_;rintro e w7 ⟨rfl,E7⟩)
 have N7:=Lib.hid ((N6.out.ext E7).ext (Ext.alloc (Ext.refl _) (.cells #[.int .i64 3,.int .i64 3,.int .i64 6,.int .i64 6] 37)))
 have RW7:=Lib.hid ((RW6.out.ext E7).ext (Ext.alloc (Ext.refl _) (.cells #[.int .i64 3,.int .i64 3,.int .i64 6,.int .i64 6] 37)))
 clear N6 RW6 E7
 obtain ⟨-,-,b2,z2⟩:=CX.out _ N7.out.but
 go_upto_region 8 with (go_at_call 22;refine (At_node N7.out.toHAt Aw.h27 Aw.t27 rfl Aw.k27 (by omega) (by omega)).mono ?_;rintro e w8 ⟨g8,c8,rfl,R8,E8⟩)
 have E89:Ext w8 ((w8.alloc (.cells #[.int .i64 1,.slice (some ⟨g8,0,none⟩) 2 c8] 41)).alloc (.cells #[.int .u8 0,.int .i64 0] 43)):=Ext.alloc (Ext.alloc (Ext.refl _) _) _
 have N9:=Lib.hid ((N7.out.ext E8).ext E89)
 have RW9:=Lib.hid ((RW7.out.ext E8).ext E89)
 have R9:=Lib.hid (R8.ext E89)
 have z7:w7.heap.size < w8.heap.size:=by have:=E8.le;simp at this;omega
 have s0:w8.cell? ⟨w7.heap.size,0,none⟩=some (.int .i64 3):=(E8.cell (by simp) 0).trans (by simp [go_sem])
 have s1:w8.cell? ⟨w7.heap.size,1,none⟩=some (.int .i64 3):=(E8.cell (by simp) 1).trans (by simp [go_sem])
 have s2:w8.cell? ⟨w7.heap.size,2,none⟩=some (.int .i64 6):=(E8.cell (by simp) 2).trans (by simp [go_sem])
 have s3:w8.cell? ⟨w7.heap.size,3,none⟩=some (.int .i64 6):=(E8.cell (by simp) 3).trans (by simp [go_sem])
 have v0:((w8.alloc (.cells #[.int .i64 1,.slice (some ⟨g8,0,none⟩) 2 c8] 41)).alloc (.cells #[.int .u8 0,.int .i64 0] 43)).cell? ⟨w8.heap.size,0,none⟩=some (.int .i64 1):=by simp [go_sem]
 have v1:((w8.alloc (.cells #[.int .i64 1,.slice (some ⟨g8,0,none⟩) 2 c8] 41)).alloc (.cells #[.int .u8 0,.int .i64 0] 43)).cell? ⟨w8.heap.size,1,none⟩=some (.slice (some ⟨g8,0,none⟩) 2 c8):=by simp [go_sem]
 have v2:((w8.alloc (.cells #[.int .i64 1,.slice (some ⟨g8,0,none⟩) 2 c8] 41)).alloc (.cells #[.int .u8 0,.int .i64 0] 43)).cell? ⟨w8.heap.size+1,0,none⟩=some (.int .u8 0):=by simp [go_sem]
 have v3:((w8.alloc (.cells #[.int .i64 1,.slice (some ⟨g8,0,none⟩) 2 c8] 41)).alloc (.cells #[.int .u8 0,.int .i64 0] 43)).cell? ⟨w8.heap.size+1,1,none⟩=some (.int .i64 0):=by simp [go_sem]
 have z9:w8.heap.size+1 < ((w8.alloc (.cells #[.int .i64 1,.slice (some ⟨g8,0,none⟩) 2 c8] 41)).alloc (.cells #[.int .u8 0,.int .i64 0] 43)).heap.size:=by simp
 have s0:=(E89.cell z7 0).trans s0
 have s1:=(E89.cell z7 1).trans s1
 have s2:=(E89.cell z7 2).trans s2
 have s3:=(E89.cell z7 3).trans s3
 clear N7 RW7 R8 E8
 generalize (w8.alloc (.cells #[.int .i64 1,.slice (some ⟨g8,0,none⟩) 2 c8] 41)).alloc (.cells #[.int .u8 0,.int .i64 0] 43)=w9 at *
 obtain ⟨b0,b1,b2,z2⟩:=CX.out _ N9.out.but
 obtain ⟨bW,oW,eW,zg,gc⟩:=RW9.out.at_.cells (by rw [Aw.ew];omega)
 cases eW
 have g1:=gc 1 _ Aw.r1
 have g3:=gc 3 _ Aw.r3
 have g11:=gc 11 _ Aw.r11
 have g14:=gc 14 _ Aw.r14
 simp only [Nat.zero_add] at g1 g3 g11 g14
 have y7:w7.heap.size < w9.heap.size:=by omega
 have y8:w8.heap.size < w9.heap.size:=by omega
 have FX:=Lib.hid (fun (W:World) (k:Ext w9 W)=>(⟨(k.cell z2 0).trans b0,(k.cell z2 1).trans b1,(k.cell z2 2).trans b2,(k.cell y7 0).trans s0,(k.cell y7 1).trans s1,(k.cell y7 2).trans s2,(k.cell y7 3).trans s3,(k.cell y8 0).trans v0,(k.cell y8 1).trans v1,(k.cell z9 0).trans v2,(k.cell z9 1).trans v3,(k.cell zg 1).trans g1,(k.cell zg 3).trans g3,(k.cell zg 11).trans g11,(k.cell zg 14).trans g14,Nat.lt_of_lt_of_le z2 k.le,Nat.lt_of_lt_of_le y7 k.le,Nat.lt_of_lt_of_le y8 k.le,Nat.lt_of_lt_of_le z9 k.le,Nat.lt_of_lt_of_le zg k.le⟩:W.cell? ⟨w1.heap.size,0,none⟩=some (.int .i64 17) ∧ W.cell? ⟨w1.heap.size,1,none⟩=some (.int .i64 22) ∧ W.cell? ⟨w1.heap.size,2,none⟩=some (.int .i64 27) ∧ W.cell? ⟨w7.heap.size,0,none⟩=some (.int .i64 3) ∧ W.cell? ⟨w7.heap.size,1,none⟩=some (.int .i64 3) ∧ W.cell? ⟨w7.heap.size,2,none⟩=some (.int .i64 6) ∧ W.cell? ⟨w7.heap.size,3,none⟩=some (.int .i64 6) ∧ W.cell? ⟨w8.heap.size,0,none⟩=some (.int .i64 1) ∧ W.cell? ⟨w8.heap.size,1,none⟩=some (.slice (some ⟨g8,0,none⟩) 2 c8) ∧ W.cell? ⟨w8.heap.size+1,0,none⟩=some (.int .u8 0) ∧ W.cell? ⟨w8.heap.size+1,1,none⟩=some (.int .i64 0) ∧ W.cell? ⟨gW,1,none⟩=some (.int .i64 17) ∧ W.cell? ⟨gW,3,none⟩=some (.int .i64 22) ∧ W.cell? ⟨gW,11,none⟩=some (.int .i64 27) ∧ W.cell? ⟨gW,14,none⟩=some (.int .i64 33) ∧ w1.heap.size < W.heap.size ∧ w7.heap.size < W.heap.size ∧ w8.heap.size < W.heap.size ∧ w8.heap.size+1 < W.heap.size ∧ gW < W.heap.size))
 have X9:Ext w w9:=But.toExt X2H.out N9.out.but (fun b hb=>O1.out b hb)
 have GX:=Lib.hid (fun (w10 W:World) (k:Ext ((w10.alloc (.cells #[.int .i64 (-1),.slice none 0 0] 41)).alloc (.cells #[.int .u8 0,.int .i64 7] 43)) W)=>(⟨(k.cell (by simp) 0).trans (by simp [go_sem]),(k.cell (by simp) 1).trans (by simp [go_sem]),by have:=k.le;simp at this;omega⟩:W.cell? ⟨w10.heap.size+1,0,none⟩=some (.int .u8 0) ∧ W.cell? ⟨w10.heap.size+1,1,none⟩=some (.int .i64 7) ∧ w10.heap.size+1 < W.heap.size))
 have R8S:=Lib.hid (fun (W:World) (k:Ext w9 W)=>(R9.out.at_.ext k:SliceAt W (some ⟨g8,0,none⟩) c8 [17,22]))
 have RWS:=Lib.hid (fun (W:World) (k:Ext w9 W)=>((RW9.out.at_.ext k).drop_ (k:=16) (by rw [Aw.ew];omega):SliceAt W (some ⟨gW,0+16,none⟩) (cW-16) (Aw.S4.words.drop 16)))
 have cw39:39 ≤ cW:=by have:=RW9.out.at_.le;rw [Aw.ew] at this;exact this
 have cwmax:=RW9.out.at_.cap
 have X9H:=Lib.hid X9
 have b1w:=b1
 clear X9 gc g1 g3 g11 g14 RW9 R9 v0 v1 v2 v3 s0 s1 s2 s3 b0 b2 y7 y8 z9 zg z7 E89
 go_upto_region 9 with (go_at_call 22;refine (At_end N9.out.toHAt Aw.h22 Aw.t22 rfl Aw.n22).mono ?_;rintro e w10 ⟨rfl,E10⟩)
 have E11:Ext w9 ((w10.alloc (.cells #[.int .i64 (-1),.slice none 0 0] 41)).alloc (.cells #[.int .u8 0,.int .i64 7] 43)):=(E10.alloc _).alloc _
 have G11:=Lib.hid (GX.out w10)
 generalize (w10.alloc (.cells #[.int .i64 (-1),.slice none 0 0] 41)).alloc (.cells #[.int .u8 0,.int .i64 7] 43)=w11 at E11 G11 ⊢
 clear E10 GX N9 CX b1 z2
 have q97:∀ u:World,Sem.run Tryz.prog (Op.equalIn 10000 97 (.agg #[.int .i64 17,.int .i64 22,.int .i64 27]) (.agg #[.int .i64 17,.int .i64 22,.int .i64 27])) u = .ok true u:=fun u=>by kernel_rfl
 have q37:∀ u:World,Sem.run Tryz.prog (Op.equalIn 10000 37 (.agg #[.int .i64 3,.int .i64 3,.int .i64 6,.int .i64 6]) (.agg #[.int .i64 3,.int .i64 3,.int .i64 6,.int .i64 6])) u = .ok true u:=fun u=>by kernel_rfl
 have q43:∀ u:World,Sem.run Tryz.prog (Op.equalIn 10000 43 (.agg #[.int .u8 0,.int .i64 0]) (.agg #[.int .u8 0,.int .i64 0])) u = .ok true u:=fun u=>by kernel_rfl
 have q44:∀ u:World,Sem.run Tryz.prog (Op.equalIn 10000 43 (.agg #[.int .u8 0,.int .i64 7]) (.agg #[.int .u8 0,.int .i64 7])) u = .ok true u:=fun u=>by kernel_rfl
 have cne:¬ cW=16:=by omega
 refine wp_region_plan (S:=fun W=>Ext w11 W) (R:=Ext) [false,false,false,false,false,false,false,false,false,false,false,false,false,false,false,false,false,false,false,false,false,false,false,false,false,false,true,false,false,false,false,false,false,false,false,false,false,false,false,false,false,false,false,false,false,false,false,false,false,false,false,false,false,false,false,false,false,false,false,false,false,false,false,false,false,false,false,false,false,false,false,false,false,false,false,false,false,false,false,false,false,false,false,false,false,false,true,false,false,false,false,false,false,false,false,false,false,false,false,false,false,false,false,false] (by kernel_rfl) Ext.refl (fun _ _ _=>Ext.trans) (by kernel_rfl) (fun _ _ d _ _ h=>by cases d <;> exact h) (by kernel_rfl) exx ?_
 intro ops hops';have hops:=Lib.hid hops';clear hops'
 refine' tkP hops ?hy0_919 ?_
 case hy0_919=>(intro w _;go_simp;try with_reducible rfl)
 refine layy ?_
 refine' tkP hops ?hy1_920 ?_
 case hy1_920=>(intro w _;go_simp;try with_reducible rfl)
 refine layy ?_
 refine' tkP hops ?hy2_921 ?_
 case hy2_921=>(intro w hSw;(obtain ⟨qa_0,qa_1,qa_2,qa_3,qa_4,qa_5,qa_6,qa_7,qa_8,qa_9,qa_10,qa_11,qa_12,qa_13,qa_14,qa_15,qa_16,qa_17,qa_18,qa_19⟩:=FX.out _ (E11.trans hSw);obtain ⟨p1,p2,p3⟩:=G11.out _ hSw);go_simp;try with_reducible rfl)
 refine layy ?_
 refine' tkP hops ?hy3_922 ?_
 case hy3_922=>(intro w _;go_simp;try with_reducible rfl)
 refine layy ?_
 refine' tkP hops ?hy4_923 ?_
 case hy4_923=>(intro w _;go_simp;try with_reducible rfl)
 refine layy ?_
 refine' tkP hops ?hy5_924 ?_
 case hy5_924=>(intro w _;go_simp;try with_reducible rfl)
 refine layy ?_
 refine' tkP hops ?hy6_925 ?_
 case hy6_925=>(intro w _;go_simp;try with_reducible rfl)
 refine layy ?_
 refine' tkP hops ?hy7_926 ?_
 case hy7_926=>(intro w _;go_simp;try with_reducible rfl)
 refine layy ?_
 refine' tkP hops ?hy8_927 ?_
 case hy8_927=>(intro w _;go_simp;try with_reducible rfl)
 refine layy ?_
 refine' tkP hops ?hy9_928 ?_
 case hy9_928=>(intro w _;go_simp;try with_reducible rfl)
 refine layy ?_
 refine' tkP hops ?hy10_929 ?_
 case hy10_929=>(intro w _;go_simp;try with_reducible rfl)
 refine layy ?_
 refine' tkP hops ?hy11_930 ?_
 case hy11_930=>(intro w _;go_simp;try with_reducible rfl)
 refine layy ?_
 refine' tkP hops ?hy12_931 ?_
 case hy12_931=>(intro w _;go_simp;try with_reducible rfl)
 refine layy ?_
 refine' tkP hops ?hy13_932 ?_
 case hy13_932=>(intro w _;go_simp;try with_reducible rfl)
 refine layy ?_
 refine' tkP hops ?hy14_933 ?_
 case hy14_933=>(intro w _;go_simp;try with_reducible rfl)
 refine layy ?_
 refine' tkP hops ?hy15_934 ?_
 case hy15_934=>(intro w _;go_simp;try with_reducible rfl)
 refine layy ?_
 refine' tkP hops ?hy16_935 ?_
 case hy16_935=>(intro w _;go_simp;try with_reducible rfl)
 refine layy ?_
 refine' tkP hops ?hy17_936 ?_
 case hy17_936=>(intro w _;go_simp;try with_reducible rfl)
 refine layy ?_
 refine' tkP hops ?hy18_937 ?_
 case hy18_937=>(intro w _;go_simp;try with_reducible rfl)
 refine layy ?_
 refine' tkP hops ?hy19_938 ?_
 case hy19_938=>(intro w _;go_simp;try with_reducible rfl)
 refine layy ?_
 refine' tkP hops ?hy20_939 ?_
 case hy20_939=>(intro w _;go_simp;try with_reducible rfl)
 refine layy ?_
 refine' tkP hops ?hy21_940 ?_
 case hy21_940=>(intro w _;go_simp;try with_reducible rfl)
 refine layy ?_
 refine' tkP hops ?hy22_941 ?_
 case hy22_941=>(intro w _;go_simp;try with_reducible rfl)
 refine layy ?_
 refine' tkP hops ?hy23_942 ?_
 case hy23_942=>(intro w _;go_simp;try with_reducible rfl)
 refine layy ?_
 refine' tkP hops ?hy24_943 ?_
 case hy24_943=>(intro w _;go_simp;try with_reducible rfl)
 refine layy ?_
 refine' tkP hops ?hy25_944 ?_
 case hy25_944=>(intro w _;go_simp;try with_reducible rfl)
 refine layy ?_
 refine Plan.run (fun v W=>∃ g,v = .slice (some ⟨g,0,none⟩) 23 23 ∧ SliceAt W (some ⟨g,0,none⟩) 23 lastWords ∧ Ext w11 W) (by first | rfl | (rw [hops.out];rfl)) ?run26 ?vs26 ?next26
 case run26=>
  intro w' _ s;refine .inl ⟨58,#[], ?_,(last_any w').mono ?_⟩
  · go_simp
  · rintro e w'' ⟨rfl,rfl⟩;exact ⟨_,rfl,w'.heap.size,rfl,lit_ints (by decide) (by decide) _,Ext.alloc s _⟩
 case vs26=>
  rintro v W ⟨g,rfl,_,h⟩ W' k;exact h.trans k
 rintro v w12 ⟨gl,rfl,SL,E12⟩
 have SLH:=Lib.hid SL
 clear SL
 refine layy ?_
 have RS1:SliceAt w12 (some ⟨gW,16,none⟩) (cW-16) (Aw.S4.words.drop 16):=by have:=RWS.out w12 (E11.trans E12);rwa [Nat.zero_add] at this
 have RS1H:=Lib.hid RS1
 clear RS1
 refine' Plan.take (v:=.bool true) (Or.inr ⟨by first | rfl | (rw [hops.out];rfl),24,_, ?hx27, ?hy27⟩) ?rest27
 case hx27=>(intro w hSw;go_simp;try with_reducible rfl)
 case hy27=>exact fun w hE=>(SMH.out w _ _ _ _ (RS1H.out.ext hE) (SLH.out.ext hE)).mono (fun _ _ h=>⟨h.1,h.2,Ext.trans hE h.2⟩)
 refine layy ?_
 have E12':=E11.trans E12
 refine' tkP hops ?hy28_945 ?_
 case hy28_945=>(intro w _;go_simp;try with_reducible rfl)
 refine layy ?_
 refine' tkP hops ?hy29_946 ?_
 case hy29_946=>(intro w _;go_simp;try with_reducible rfl)
 refine layy ?_
 refine' tkP hops ?hy30_947 ?_
 case hy30_947=>(intro w _;go_simp;try with_reducible rfl)
 refine layy ?_
 refine' tkP hops ?hy31_948 ?_
 case hy31_948=>(intro w _;go_simp;try with_reducible rfl)
 refine layy ?_
 refine' tkP hops ?hy32_949 ?_
 case hy32_949=>(intro w hSw;(obtain ⟨qa_0,qa_1,qa_2,qa_3,qa_4,qa_5,qa_6,qa_7,qa_8,qa_9,qa_10,qa_11,qa_12,qa_13,qa_14,qa_15,qa_16,qa_17,qa_18,qa_19⟩:=FX.out _ (E12'.trans hSw);obtain ⟨p1,p2,p3⟩:=G11.out _ (E12.trans hSw));go_simp;try with_reducible rfl)
 refine layy ?_
 refine' tkP hops ?hy33_950 ?_
 case hy33_950=>(intro w _;go_simp;try with_reducible rfl)
 refine layy ?_
 refine' tkP hops ?hy34_951 ?_
 case hy34_951=>(intro w _;go_simp;try with_reducible rfl)
 refine layy ?_
 refine' tkP hops ?hy35_952 ?_
 case hy35_952=>(intro w _;go_simp;try with_reducible rfl)
 refine layy ?_
 refine' tkP hops ?hy36_953 ?_
 case hy36_953=>(intro w _;go_simp;try with_reducible rfl)
 refine layy ?_
 refine' tkP hops ?hy37_954 ?_
 case hy37_954=>(intro w _;go_simp;try with_reducible rfl)
 refine layy ?_
 refine' tkP hops ?hy38_955 ?_
 case hy38_955=>(intro w hSw;(obtain ⟨qa_0,qa_1,qa_2,qa_3,qa_4,qa_5,qa_6,qa_7,qa_8,qa_9,qa_10,qa_11,qa_12,qa_13,qa_14,qa_15,qa_16,qa_17,qa_18,qa_19⟩:=FX.out _ (E12'.trans hSw);obtain ⟨p1,p2,p3⟩:=G11.out _ (E12.trans hSw));go_simp;try with_reducible rfl)
 refine layy ?_
 refine' tkP hops ?hy39_956 ?_
 case hy39_956=>(intro w _;go_simp;try with_reducible rfl)
 refine layy ?_
 refine' tkP hops ?hy40_957 ?_
 case hy40_957=>(intro w _;go_simp;try with_reducible rfl)
 refine layy ?_
 refine' tkP hops ?hy41_958 ?_
 case hy41_958=>(intro w _;go_simp;try with_reducible rfl)
 refine layy ?_
 refine' tkP hops ?hy42_959 ?_
 case hy42_959=>(intro w _;go_simp;try with_reducible rfl)
 refine layy ?_
 refine' tkP hops ?hy43_960 ?_
 case hy43_960=>(intro w _;go_simp;try with_reducible rfl)
 refine layy ?_
 refine' tkP hops ?hy44_961 ?_
 case hy44_961=>(intro w hSw;(obtain ⟨qa_0,qa_1,qa_2,qa_3,qa_4,qa_5,qa_6,qa_7,qa_8,qa_9,qa_10,qa_11,qa_12,qa_13,qa_14,qa_15,qa_16,qa_17,qa_18,qa_19⟩:=FX.out _ (E12'.trans hSw);obtain ⟨p1,p2,p3⟩:=G11.out _ (E12.trans hSw));go_simp;try with_reducible rfl)
 refine layy ?_
 refine' tkP hops ?hy45_962 ?_
 case hy45_962=>(intro w _;go_simp;try with_reducible rfl)
 refine layy ?_
 refine' tkP hops ?hy46_963 ?_
 case hy46_963=>(intro w _;go_simp;try with_reducible rfl)
 refine layy ?_
 refine' tkP hops ?hy47_964 ?_
 case hy47_964=>(intro w _;go_simp;try with_reducible rfl)
 refine layy ?_
 refine' tkP hops ?hy48_965 ?_
 case hy48_965=>(intro w _;go_simp;try with_reducible rfl)
 refine layy ?_
 refine' tkP hops ?hy49_966 ?_
 case hy49_966=>(intro w _;go_simp;try with_reducible rfl)
 refine layy ?_
 refine' tkP hops ?hy50_967 ?_
 case hy50_967=>(intro w hSw;(obtain ⟨qa_0,qa_1,qa_2,qa_3,qa_4,qa_5,qa_6,qa_7,qa_8,qa_9,qa_10,qa_11,qa_12,qa_13,qa_14,qa_15,qa_16,qa_17,qa_18,qa_19⟩:=FX.out _ (E12'.trans hSw);obtain ⟨p1,p2,p3⟩:=G11.out _ (E12.trans hSw));go_simp;try with_reducible rfl)
 refine layy ?_
 refine' tkP hops ?hy51_968 ?_
 case hy51_968=>(intro w _;go_simp;try with_reducible rfl)
 refine layy ?_
 refine' tkP hops ?hy52_969 ?_
 case hy52_969=>(intro w _;go_simp;try with_reducible rfl)
 refine layy ?_
 refine' tkP hops ?hy53_970 ?_
 case hy53_970=>(intro w _;go_simp;try with_reducible rfl)
 refine layy ?_
 refine' tkP hops ?hy54_971 ?_
 case hy54_971=>(intro w _;go_simp;try with_reducible rfl)
 refine layy ?_
 refine' tkP hops ?hy55_972 ?_
 case hy55_972=>(intro w _;go_simp;try with_reducible rfl)
 refine layy ?_
 refine' tkP hops ?hy56_973 ?_
 case hy56_973=>(intro w _;go_simp;try with_reducible rfl)
 refine layy ?_
 refine' tkP hops ?hy57_974 ?_
 case hy57_974=>(intro w _;go_simp;try with_reducible rfl)
 refine layy ?_
 refine' tkP hops ?hy58_975 ?_
 case hy58_975=>(intro w _;go_simp;try with_reducible rfl)
 refine layy ?_
 refine' tkP hops ?hy59_976 ?_
 case hy59_976=>(intro w _;go_simp;try with_reducible rfl)
 refine layy ?_
 refine' tkP hops ?hy60_977 ?_
 case hy60_977=>(intro w _;go_simp;try with_reducible rfl)
 refine layy ?_
 refine' tkP hops ?hy61_978 ?_
 case hy61_978=>(intro w _;go_simp;try with_reducible rfl)
 refine layy ?_
 refine' tkP hops ?hy62_979 ?_
 case hy62_979=>(intro w _;go_simp;try with_reducible rfl)
 refine layy ?_
 refine' tkP hops ?hy63_980 ?_
 case hy63_980=>(intro w _;go_simp;try with_reducible rfl)
 refine layy ?_
 refine' tkP hops ?hy64_981 ?_
 case hy64_981=>(intro w _;go_simp;try with_reducible rfl)
 refine layy ?_
 refine' tkP hops ?hy65_982 ?_
 case hy65_982=>(intro w _;go_simp;try with_reducible rfl)
 refine layy ?_
 refine' tkP hops ?hy66_983 ?_
 case hy66_983=>(intro w _;go_simp;try with_reducible rfl)
 refine layy ?_
 refine' tkP hops ?hy67_984 ?_
 case hy67_984=>(intro w _;go_simp;try with_reducible rfl)
 refine layy ?_
 refine' tkP hops ?hy68_985 ?_
 case hy68_985=>(intro w _;go_simp;try with_reducible rfl)
 refine layy ?_
 refine' tkP hops ?hy69_986 ?_
 case hy69_986=>(intro w _;go_simp;try with_reducible rfl)
 refine layy ?_
 refine' tkP hops ?hy70_987 ?_
 case hy70_987=>(intro w hSw;(obtain ⟨qa_0,qa_1,qa_2,qa_3,qa_4,qa_5,qa_6,qa_7,qa_8,qa_9,qa_10,qa_11,qa_12,qa_13,qa_14,qa_15,qa_16,qa_17,qa_18,qa_19⟩:=FX.out _ (E12'.trans hSw);obtain ⟨p1,p2,p3⟩:=G11.out _ (E12.trans hSw));go_simp;try with_reducible rfl)
 refine layy ?_
 refine' tkP hops ?hy71_988 ?_
 case hy71_988=>(intro w _;go_simp;try with_reducible rfl)
 refine layy ?_
 refine' tkP hops ?hy72_989 ?_
 case hy72_989=>(intro w _;go_simp;try with_reducible rfl)
 refine layy ?_
 refine' tkP hops ?hy73_990 ?_
 case hy73_990=>(intro w _;go_simp;try with_reducible rfl)
 refine layy ?_
 refine' tkP hops ?hy74_991 ?_
 case hy74_991=>(intro w _;go_simp;try with_reducible rfl)
 refine layy ?_
 refine' tkP hops ?hy75_992 ?_
 case hy75_992=>(intro w _;go_simp;try with_reducible rfl)
 refine layy ?_
 refine' tkP hops ?hy76_993 ?_
 case hy76_993=>(intro w _;go_simp;try with_reducible rfl)
 refine layy ?_
 refine' tkP hops ?hy77_994 ?_
 case hy77_994=>(intro w _;go_simp;try with_reducible rfl)
 refine layy ?_
 refine' tkP hops ?hy78_995 ?_
 case hy78_995=>(intro w _;go_simp;try with_reducible rfl)
 refine layy ?_
 refine' tkP hops ?hy79_996 ?_
 case hy79_996=>(intro w _;go_simp;try with_reducible rfl)
 refine layy ?_
 refine' tkP hops ?hy80_997 ?_
 case hy80_997=>(intro w hSw;(obtain ⟨qa_0,qa_1,qa_2,qa_3,qa_4,qa_5,qa_6,qa_7,qa_8,qa_9,qa_10,qa_11,qa_12,qa_13,qa_14,qa_15,qa_16,qa_17,qa_18,qa_19⟩:=FX.out _ (E12'.trans hSw);obtain ⟨p1,p2,p3⟩:=G11.out _ (E12.trans hSw));go_simp;try with_reducible rfl)
 refine layy ?_
 refine' tkP hops ?hy81_998 ?_
 case hy81_998=>(intro w _;go_simp;try with_reducible rfl)
 refine layy ?_
 refine' tkP hops ?hy82_999 ?_
 case hy82_999=>(intro w _;go_simp;try with_reducible rfl)
 refine layy ?_
 refine' tkP hops ?hy83_1000 ?_
 case hy83_1000=>(intro w _;go_simp;try with_reducible rfl)
 refine layy ?_
 refine' tkP hops ?hy84_1001 ?_
 case hy84_1001=>(intro w _;go_simp;try with_reducible rfl)
 refine layy ?_
 refine' tkP hops ?hy85_1002 ?_
 case hy85_1002=>(intro w hSw;(obtain ⟨qa_0,qa_1,qa_2,qa_3,qa_4,qa_5,qa_6,qa_7,qa_8,qa_9,qa_10,qa_11,qa_12,qa_13,qa_14,qa_15,qa_16,qa_17,qa_18,qa_19⟩:=FX.out _ (E12'.trans hSw);obtain ⟨p1,p2,p3⟩:=G11.out _ (E12.trans hSw));go_simp;try with_reducible rfl)
 refine layy ?_
 refine Plan.run (fun v W=>∃ g,v = .slice (some ⟨g,0,none⟩) 2 2 ∧ SliceAt W (some ⟨g,0,none⟩) 2 [17,22] ∧ Ext w12 W) (by first | rfl | (rw [hops.out];rfl)) ?run86 ?vs86 ?next86
 case run86=>
  intro w' _ s;refine .inr ⟨.slice (some ⟨w'.heap.size,0,none⟩) 2 2,w'.alloc (.cells #[.int .i64 17,.int .i64 22] 3), ?_,w'.heap.size,rfl,SliceAt.two w' 17 22 (by omega) (by omega) _,Ext.alloc s _⟩;go_simp
 case vs86=>
  rintro v W ⟨g,rfl,_,h⟩ W' k;exact h.trans k
 rintro v w13 ⟨gk,rfl,SK,E13⟩
 have SK13:=Lib.hid SK
 clear SK
 refine layy ?_
 refine' Plan.take (v:=.bool true) (Or.inr ⟨by first | rfl | (rw [hops.out];rfl),24,_, ?hx87, ?hy87⟩) ?rest87
 case hx87=>(intro w hSw;go_simp;try with_reducible rfl)
 case hy87=>exact fun w hE=>(SKH.out w _ _ _ _ (R8S.out _ ((E12'.trans E13).trans hE)) (SK13.out.ext hE)).mono (fun _ _ h=>⟨h.1,h.2,Ext.trans hE h.2⟩)
 refine layy ?_
 have E13':=E12.trans E13
 have E13'':=E12'.trans E13
 refine' tkP hops ?hy88_1003 ?_
 case hy88_1003=>(intro w _;go_simp;try with_reducible rfl)
 refine layy ?_
 refine' tkP hops ?hy89_1004 ?_
 case hy89_1004=>(intro w _;go_simp;try with_reducible rfl)
 refine layy ?_
 refine' tkP hops ?hy90_1005 ?_
 case hy90_1005=>(intro w hSw;(obtain ⟨qa_0,qa_1,qa_2,qa_3,qa_4,qa_5,qa_6,qa_7,qa_8,qa_9,qa_10,qa_11,qa_12,qa_13,qa_14,qa_15,qa_16,qa_17,qa_18,qa_19⟩:=FX.out _ (E13''.trans hSw);obtain ⟨p1,p2,p3⟩:=G11.out _ (E13'.trans hSw));go_simp;try with_reducible rfl)
 refine layy ?_
 refine' tkP hops ?hy91_1006 ?_
 case hy91_1006=>(intro w _;go_simp;try with_reducible rfl)
 refine layy ?_
 refine' tkP hops ?hy92_1007 ?_
 case hy92_1007=>(intro w _;go_simp;try with_reducible rfl)
 refine layy ?_
 refine' tkP hops ?hy93_1008 ?_
 case hy93_1008=>(intro w _;go_simp;try with_reducible rfl)
 refine layy ?_
 refine' tkP hops ?hy94_1009 ?_
 case hy94_1009=>(intro w _;go_simp;try with_reducible rfl)
 refine layy ?_
 refine' tkP hops ?hy95_1010 ?_
 case hy95_1010=>(intro w _;go_simp;try with_reducible rfl)
 refine layy ?_
 refine' tkP hops ?hy96_1011 ?_
 case hy96_1011=>(intro w _;go_simp;try with_reducible rfl)
 refine layy ?_
 refine' tkP hops ?hy97_1012 ?_
 case hy97_1012=>(intro w _;go_simp;try with_reducible rfl)
 refine layy ?_
 refine' tkP hops ?hy98_1013 ?_
 case hy98_1013=>(intro w _;go_simp;try with_reducible rfl)
 refine layy ?_
 refine' tkP hops ?hy99_1014 ?_
 case hy99_1014=>(intro w hSw;(obtain ⟨qa_0,qa_1,qa_2,qa_3,qa_4,qa_5,qa_6,qa_7,qa_8,qa_9,qa_10,qa_11,qa_12,qa_13,qa_14,qa_15,qa_16,qa_17,qa_18,qa_19⟩:=FX.out _ (E13''.trans hSw);obtain ⟨p1,p2,p3⟩:=G11.out _ (E13'.trans hSw));go_simp;try with_reducible rfl)
 refine layy ?_
 refine' tkP hops ?hy100_1015 ?_
 case hy100_1015=>(intro w _;go_simp;try with_reducible rfl)
 refine layy ?_
 refine' tkP hops ?hy101_1016 ?_
 case hy101_1016=>(intro w _;go_simp;try with_reducible rfl)
 refine layy ?_
 refine' tkP hops ?hy102_1017 ?_
 case hy102_1017=>(intro w _;go_simp;try with_reducible rfl)
 refine layy ?_
 refine' tkP hops ?hy103_1018 ?_
 case hy103_1018=>(intro w _;go_simp;try with_reducible rfl)
 refine layy ?_
 refine Plan.done ?_
 intro w14 _ E14
 go_wp2_with fail
 go_returns
 exact ⟨rfl,(X9H.out.trans E13'').trans E14⟩
end Go.Proofs.YtdokmmhjmclmnaaGreat
