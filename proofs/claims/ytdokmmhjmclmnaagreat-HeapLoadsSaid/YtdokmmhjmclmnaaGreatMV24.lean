/-
  Part 24 of a proof: HFn34.
-/
import Derived.Test.YtdokmmhjmclmnaaGreatMV04
import Derived.Test.YtdokmmhjmclmnaaGreatMV17
set_option linter.unusedSimpArgs false
set_option linter.unusedVariables false
set_option linter.unusedSectionVars false
set_option linter.unnecessarySimpa false
namespace Go.Proofs.YtdokmmhjmclmnaaGreat
variable {W' w w' w0 wb:World} {B a b base c cap ce cn f g gb i j k lb m n oc s sc:Nat} {choice t x:Int} {G W fs l o xs z:List Int} {S S':Hp.Hs} {A N T:List Nat} {M:List (Nat × Int)} {op p pe pn q sp:Option Addr} {d:Hd}
open Go.RowKit Go.Maps
theorem SliceAt.drop_ {o:Nat} (h:SliceAt w (some ⟨g,o,none⟩) c l) (hk:k < l.length):SliceAt w (some ⟨g,o+k,none⟩) (c-k) (l.drop k):=by
 obtain ⟨b,o',e,hb,hc⟩:=h.cells (by omega)
 cases e
 have h1:=h.le
 have h2:=h.cap
 refine ⟨by rw [List.length_drop];omega,by omega,fun x hx=>h.wf x (List.mem_of_mem_drop hx),fun _=>⟨g,o+k,rfl,hb,fun j x hx=>?_⟩⟩
 have:Hp.rd l (k+j)=some x:=by
  unfold Hp.rd at hx ⊢
  rwa [List.getElem?_drop] at hx
 rw [Nat.add_assoc]
 exact hc _ _ this
theorem lit_ints (hl:∀ x ∈ l,-9223372036854775808<=x/\x<=9223372036854775807) (hn:l.length<=1000000) (t:TypeId):SliceAt (w.alloc (.cells (ints l).toArray t)) (some ⟨w.heap.size,0,none⟩) l.length l:=by
 refine ⟨Nat.le_refl _,by omega,hl,fun _=>⟨w.heap.size,0,rfl,by simp,fun j x hx=>?_⟩⟩
 have:(ints l)[j]? = some (.int .i64 x):=by
  unfold Hp.rd at hx;simp [ints,hx]
 have e:=World.alloc_heap_new w (.cells (ints l).toArray t)
 simp only [World.cell?,e]
 simpa using this
theorem HAt.box {v:Value} {o:Nat} (h:HAt w d S) (ho:∀ b ∈ d.own,b < g) (h1:∀ b o,d.sp=some ⟨b,o,none⟩->b < g) (h2:∀ b o,d.op=some ⟨b,o,none⟩->b < g):HAt (w.setCell ⟨g,o,none⟩ v) d S:=
 h.but ((But.refl [g] _).setCell (.inl (by simp)) _) (by have:=ho _ d.hb_own;simp;omega) (by have:=ho _ d.gw_own;simp;omega) (by have:=ho _ d.gm_own;simp;omega) (fun b o e=>by have:=h1 b o e;simp;omega) (fun b o e=>by have:=h2 b o e;simp;omega)
set_option maxRecDepth 100000 in
set_option maxHeartbeats 16000000 in
theorem awake_any (w:World):Calls Tryz.prog 15 #[] w fun e w'=>e = .returned (.bool true)/\Ext w w':=by
 have L16:(Aw.S4.words.drop 16).length=23:=by kernel_rfl
 have SM:∀ (W:World) (p q:Option Addr) (c d:Nat),SliceAt W p c (Aw.S4.words.drop 16)->SliceAt W q d lastWords->Calls Tryz.prog 24 #[.slice p 23 c,.slice q 23 d] W fun e w'=>e = .returned (.bool true)/\Ext W w':=fun W p q c d h k=>by
  have:=dSame_is Aw.es h k;rw [L16,show lastWords.length=23 from rfl] at this;exact this
 have SK:∀ (W:World) (p q:Option Addr) (c d:Nat),SliceAt W p c [17,22]->SliceAt W q d [17,22]->Calls Tryz.prog 24 #[.slice p 2 c,.slice q 2 d] W fun e w'=>e = .returned (.bool true)/\Ext W w':=fun W p q c d h k=>by
  have:=dSame_is (b:=true) (l:=[17,22]) (m:=[17,22]) rfl h k;exact this
 have WX:∀ {d:Hd} (W:World),HAt W d Aw.S4->Calls Tryz.prog 20 #[.pointer (some ⟨d.hb,0,none⟩)] W fun e w'=>∃ g c,e = .returned (.tuple #[.slice (some ⟨g,0,none⟩) 39 c,.int .i64 0])/\Row w' W.heap.size (some ⟨g,0,none⟩) c Aw.S4.words/\Ext W w':=fun {d} W h=>by
  have:=Words_any h (by rw [Aw.ew];omega);unfold WordsPost at this;rw [Aw.ew] at this;exact this
 have SX:∀ {d:Hd} (W:World),HAt W d Aw.S6->Calls Tryz.prog 21 #[.pointer (some ⟨d.hb,0,none⟩)] W fun e w'=>e = .returned (.tuple #[.agg #[.int .i64 3,.int .i64 3,.int .i64 6,.int .i64 6],.int .i64 0])/\Ext W w':=fun {d} W h=>by
  have:=Stats_any h Aw.el Aw.ep;rw [Aw.eg,Aw.et] at this;exact this
 have SMH:=hZ SM
 have SKH:=hZ SK
 clear SM SK L16
 go_enter Tryz.func15,Tryz.ntmps15
 go_upto_region 2 with (go_at_call 55;refine (pair_any (n:=39) (by omega) (by omega) Aw.ee Aw.e0 Aw.e1 Aw.e2 Aw.e3).mono ?_;rintro e w1 ⟨d,rfl,hA1,o1,E1,s1,s2⟩)
 have A2:HAt (w1.alloc (.cells #[.int .i64 17,.int .i64 22,.int .i64 27] 97)) d Aw.S3:=hA1.ext (Ext.alloc (Ext.refl _) _)
 have X2:Ext w (w1.alloc (.cells #[.int .i64 17,.int .i64 22,.int .i64 27] 97)):=E1.alloc _
 have own1:=hA1.own_lt
 have hx:w1.heap.size ∉ d.own:=fun hm=>by have:=own1 _ hm;omega
 have z2:w1.heap.size < (w1.alloc (.cells #[.int .i64 17,.int .i64 22,.int .i64 27] 97)).heap.size:=by simp
 have b0:(w1.alloc (.cells #[.int .i64 17,.int .i64 22,.int .i64 27] 97)).cell? ⟨w1.heap.size,0,none⟩=some (.int .i64 17):=by simp [go_sem]
 have b1:(w1.alloc (.cells #[.int .i64 17,.int .i64 22,.int .i64 27] 97)).cell? ⟨w1.heap.size,1,none⟩=some (.int .i64 22):=by simp [go_sem]
 have b2:(w1.alloc (.cells #[.int .i64 17,.int .i64 22,.int .i64 27] 97)).cell? ⟨w1.heap.size,2,none⟩=some (.int .i64 27):=by simp [go_sem]
 generalize w1.alloc (.cells #[.int .i64 17,.int .i64 22,.int .i64 27] 97)=w2 at A2 X2 z2 b0 b1 b2 ⊢
 have CX:=hZ (fun (W:World) (k:But d.own w2 W)=>(⟨(k.cell z2 hx 0).trans b0,(k.cell z2 hx 1).trans b1,(k.cell z2 hx 2).trans b2,Nat.lt_of_lt_of_le z2 k.size⟩:W.cell? ⟨w1.heap.size,0,none⟩=some (.int .i64 17)/\W.cell? ⟨w1.heap.size,1,none⟩=some (.int .i64 22)/\W.cell? ⟨w1.heap.size,2,none⟩=some (.int .i64 27)/\w1.heap.size < W.heap.size))
 have X2H:=hZ X2
 have N2:=hZ (Now.refl A2)
 have O1:=hZ o1
 have OW:=hZ own1
 have q3:SliceAt (w2.alloc (.cells #[.int .i64 17,.int .i64 27] 3)) (some ⟨w2.heap.size,0,none⟩) 2 [17,27]:=SliceAt.two w2 17 27 (by omega) (by omega) _
 have E3:Ext w2 (w2.alloc (.cells #[.int .i64 17,.int .i64 27] 3)):=Ext.alloc (Ext.refl _) _
 have M3:Calls Tryz.prog 44 #[.pointer (some ⟨d.hb,0,none⟩),.int .i64 0,.slice (some ⟨w2.heap.size,0,none⟩) 2 2] (w2.alloc (.cells #[.int .i64 17,.int .i64 27] 3)) (Added d (w2.alloc (.cells #[.int .i64 17,.int .i64 27] 3)) (33,0,Aw.S4)):=
  Make_any (l:=[17,27]) (N2.out.ext E3).toHAt q3 (fun b o e hm=>by
   cases e
   have:=N2.out.own_lt _ hm;omega) (by omega) (by omega) Aw.e4
 clear q3 A2 X2 own1 o1 hA1 E1 s1 s2 hx
 go_upto_region 3 with (go_at_call 44;refine M3.mono ?_;rintro e w3 ⟨rfl,A3⟩)
 have N3:=hZ (Now.mk A3.toHAt ((N2.out.but.ext E3).trans A3.but))
 clear A3 M3 N2 E3 b0 b1 b2 z2
 go_upto_region 4 with (go_at_call 20;refine (WX _ N3.out.toHAt).mono ?_;rintro e w4 ⟨gW,cW,rfl,RW,E4⟩)
 have N4:=hZ (N3.out.ext E4)
 have RW4:=hZ RW
 have W34:=E4.le
 have Z3:=(CX.out _ N3.out.but).2.2.2
 clear RW N3 E4
 obtain ⟨-,-,b2,z2⟩:=CX.out _ N4.out.but
 go_upto_region 5 with (go_at_call 53;refine (Hold_any N4.out.toHAt Aw.e5 (by omega) (by omega)).mono ?_;rintro e w5 ⟨rfl,hA5,hB5⟩)
 have N5:=hZ (Now.mk hA5 (N4.out.but.trans hB5))
 have RW5:=hZ (RW4.out.but hB5 (fun b hb=>by have:=OW.out b hb;omega))
 clear hA5 hB5 N4 RW4 b2
 go_upto_region 6 with (go_at_call 47;refine (Collect_any N5.out.toHAt Aw.e6).mono ?_;rintro e w6 ⟨rfl,hA6,hB6⟩)
 have N6:=hZ (Now.mk hA6 (N5.out.but.trans hB6))
 have RW6:=hZ (RW5.out.but hB6 (fun b hb=>by have:=OW.out b hb;omega))
 clear hA6 hB6 N5 RW5
 go_upto_region 7 with (go_at_call 21;refine (SX _ N6.out.toHAt).mono ?_;rintro e w7 ⟨rfl,E7⟩)
 have N7:=hZ ((N6.out.ext E7).ext (Ext.alloc (Ext.refl _) (.cells #[.int .i64 3,.int .i64 3,.int .i64 6,.int .i64 6] 37)))
 have RW7:=hZ ((RW6.out.ext E7).ext (Ext.alloc (Ext.refl _) (.cells #[.int .i64 3,.int .i64 3,.int .i64 6,.int .i64 6] 37)))
 clear N6 RW6 E7
 obtain ⟨-,-,b2,z2⟩:=CX.out _ N7.out.but
 go_upto_region 8 with (go_at_call 22;refine (At_node N7.out.toHAt Aw.h27 Aw.t27 rfl Aw.k27 (by omega) (by omega)).mono ?_;rintro e w8 ⟨g8,c8,rfl,R8,E8⟩)
 have E89:Ext w8 ((w8.alloc (.cells #[.int .i64 1,.slice (some ⟨g8,0,none⟩) 2 c8] 41)).alloc (.cells #[.int .u8 0,.int .i64 0] 43)):=Ext.alloc (Ext.alloc (Ext.refl _) _) _
 have N9:=hZ ((N7.out.ext E8).ext E89)
 have RW9:=hZ ((RW7.out.ext E8).ext E89)
 have R9:=hZ (R8.ext E89)
 have z7:w7.heap.size < w8.heap.size:=by have:=E8.le;simp at this;omega
 have s0:w8.cell? ⟨w7.heap.size,0,none⟩=some (.int .i64 3):=(E8.cell (by simp) 0).trans (by simp [go_sem])
 have s1:w8.cell? ⟨w7.heap.size,1,none⟩=some (.int .i64 3):=(E8.cell (by simp) 1).trans (by simp [go_sem])
 have s2:w8.cell? ⟨w7.heap.size,2,none⟩=some (.int .i64 6):=(E8.cell (by simp) 2).trans (by simp [go_sem])
 have s3:w8.cell? ⟨w7.heap.size,3,none⟩=some (.int .i64 6):=(E8.cell (by simp) 3).trans (by simp [go_sem])
 have v0:((w8.alloc (.cells #[.int .i64 1,.slice (some ⟨g8,0,none⟩) 2 c8] 41)).alloc (.cells #[.int .u8 0,.int .i64 0] 43)).cell? ⟨w8.heap.size,0,none⟩=some (.int .i64 1):=by simp [go_sem]
 have v1:((w8.alloc (.cells #[.int .i64 1,.slice (some ⟨g8,0,none⟩) 2 c8] 41)).alloc (.cells #[.int .u8 0,.int .i64 0] 43)).cell? ⟨w8.heap.size,1,none⟩=some (.slice (some ⟨g8,0,none⟩) 2 c8):=by simp [go_sem]
 have v2:((w8.alloc (.cells #[.int .i64 1,.slice (some ⟨g8,0,none⟩) 2 c8] 41)).alloc (.cells #[.int .u8 0,.int .i64 0] 43)).cell? ⟨w8.heap.size+1,0,none⟩=some (.int .u8 0):=by simp [go_sem]
 have v3:((w8.alloc (.cells #[.int .i64 1,.slice (some ⟨g8,0,none⟩) 2 c8] 41)).alloc (.cells #[.int .u8 0,.int .i64 0] 43)).cell? ⟨w8.heap.size+1,1,none⟩=some (.int .i64 0):=by simp [go_sem]
 have z9:w8.heap.size+1 < ((w8.alloc (.cells #[.int .i64 1,.slice (some ⟨g8,0,none⟩) 2 c8] 41)).alloc (.cells #[.int .u8 0,.int .i64 0] 43)).heap.size:=by simp
 have s0:=(E89.cell z7 0).trans s0
 have s1:=(E89.cell z7 1).trans s1
 have s2:=(E89.cell z7 2).trans s2
 have s3:=(E89.cell z7 3).trans s3
 clear N7 RW7 R8 E8
 generalize (w8.alloc (.cells #[.int .i64 1,.slice (some ⟨g8,0,none⟩) 2 c8] 41)).alloc (.cells #[.int .u8 0,.int .i64 0] 43)=w9 at *
 obtain ⟨b0,b1,b2,z2⟩:=CX.out _ N9.out.but
 obtain ⟨bW,oW,eW,zg,gc⟩:=RW9.out.at_.cells (by rw [Aw.ew];omega)
 cases eW
 have g1:=gc 1 _ Aw.r1
 have g3:=gc 3 _ Aw.r3
 have g11:=gc 11 _ Aw.r11
 have g14:=gc 14 _ Aw.r14
 simp only [Nat.zero_add] at g1 g3 g11 g14
 have y7:w7.heap.size < w9.heap.size:=by omega
 have y8:w8.heap.size < w9.heap.size:=by omega
 have FX:=hZ (fun (W:World) (k:Ext w9 W)=>(⟨(k.cell z2 0).trans b0,(k.cell z2 1).trans b1,(k.cell z2 2).trans b2,(k.cell y7 0).trans s0,(k.cell y7 1).trans s1,(k.cell y7 2).trans s2,(k.cell y7 3).trans s3,(k.cell y8 0).trans v0,(k.cell y8 1).trans v1,(k.cell z9 0).trans v2,(k.cell z9 1).trans v3,(k.cell zg 1).trans g1,(k.cell zg 3).trans g3,(k.cell zg 11).trans g11,(k.cell zg 14).trans g14,Nat.lt_of_lt_of_le z2 k.le,Nat.lt_of_lt_of_le y7 k.le,Nat.lt_of_lt_of_le y8 k.le,Nat.lt_of_lt_of_le z9 k.le,Nat.lt_of_lt_of_le zg k.le⟩:W.cell? ⟨w1.heap.size,0,none⟩=some (.int .i64 17)/\W.cell? ⟨w1.heap.size,1,none⟩=some (.int .i64 22)/\W.cell? ⟨w1.heap.size,2,none⟩=some (.int .i64 27)/\W.cell? ⟨w7.heap.size,0,none⟩=some (.int .i64 3)/\W.cell? ⟨w7.heap.size,1,none⟩=some (.int .i64 3)/\W.cell? ⟨w7.heap.size,2,none⟩=some (.int .i64 6)/\W.cell? ⟨w7.heap.size,3,none⟩=some (.int .i64 6)/\W.cell? ⟨w8.heap.size,0,none⟩=some (.int .i64 1)/\W.cell? ⟨w8.heap.size,1,none⟩=some (.slice (some ⟨g8,0,none⟩) 2 c8)/\W.cell? ⟨w8.heap.size+1,0,none⟩=some (.int .u8 0)/\W.cell? ⟨w8.heap.size+1,1,none⟩=some (.int .i64 0)/\W.cell? ⟨gW,1,none⟩=some (.int .i64 17)/\W.cell? ⟨gW,3,none⟩=some (.int .i64 22)/\W.cell? ⟨gW,11,none⟩=some (.int .i64 27)/\W.cell? ⟨gW,14,none⟩=some (.int .i64 33)/\w1.heap.size < W.heap.size/\w7.heap.size < W.heap.size/\w8.heap.size < W.heap.size/\w8.heap.size+1 < W.heap.size/\gW < W.heap.size))
 have X9:Ext w w9:=But.toExt X2H.out N9.out.but (fun b hb=>O1.out b hb)
 have GX:=hZ (fun (w10 W:World) (k:Ext ((w10.alloc (.cells #[.int .i64 (-1),.slice none 0 0] 41)).alloc (.cells #[.int .u8 0,.int .i64 7] 43)) W)=>(⟨(k.cell (by simp) 0).trans (by simp [go_sem]),(k.cell (by simp) 1).trans (by simp [go_sem]),by have:=k.le;simp at this;omega⟩:W.cell? ⟨w10.heap.size+1,0,none⟩=some (.int .u8 0)/\W.cell? ⟨w10.heap.size+1,1,none⟩=some (.int .i64 7)/\w10.heap.size+1 < W.heap.size))
 have R8S:=hZ (fun (W:World) (k:Ext w9 W)=>(R9.out.at_.ext k:SliceAt W (some ⟨g8,0,none⟩) c8 [17,22]))
 have RWS:=hZ (fun (W:World) (k:Ext w9 W)=>((RW9.out.at_.ext k).drop_ (k:=16) (by rw [Aw.ew];omega):SliceAt W (some ⟨gW,0+16,none⟩) (cW-16) (Aw.S4.words.drop 16)))
 have cw39:39<=cW:=by have:=RW9.out.at_.le;rw [Aw.ew] at this;exact this
 have cwmax:=RW9.out.at_.cap
 have X9H:=hZ X9
 have b1w:=b1
 clear X9 gc g1 g3 g11 g14 RW9 R9 v0 v1 v2 v3 s0 s1 s2 s3 b0 b2 y7 y8 z9 zg z7 E89
 go_upto_region 9 with (go_at_call 22;refine (At_end N9.out.toHAt Aw.h22 Aw.t22 rfl Aw.n22).mono ?_;rintro e w10 ⟨rfl,E10⟩)
 have E11:Ext w9 ((w10.alloc (.cells #[.int .i64 (-1),.slice none 0 0] 41)).alloc (.cells #[.int .u8 0,.int .i64 7] 43)):=(E10.alloc _).alloc _
 have G11:=hZ (GX.out w10)
 generalize (w10.alloc (.cells #[.int .i64 (-1),.slice none 0 0] 41)).alloc (.cells #[.int .u8 0,.int .i64 7] 43)=w11 at E11 G11 ⊢
 clear E10 GX N9 CX b1 z2
 have q97:∀ u:World,Sem.run Tryz.prog (Op.equalIn 10000 97 (.agg #[.int .i64 17,.int .i64 22,.int .i64 27]) (.agg #[.int .i64 17,.int .i64 22,.int .i64 27])) u = .ok true u:=fun u=>by kernel_rfl
 have q37:∀ u:World,Sem.run Tryz.prog (Op.equalIn 10000 37 (.agg #[.int .i64 3,.int .i64 3,.int .i64 6,.int .i64 6]) (.agg #[.int .i64 3,.int .i64 3,.int .i64 6,.int .i64 6])) u = .ok true u:=fun u=>by kernel_rfl
 have q43:∀ u:World,Sem.run Tryz.prog (Op.equalIn 10000 43 (.agg #[.int .u8 0,.int .i64 0]) (.agg #[.int .u8 0,.int .i64 0])) u = .ok true u:=fun u=>by kernel_rfl
 have q44:∀ u:World,Sem.run Tryz.prog (Op.equalIn 10000 43 (.agg #[.int .u8 0,.int .i64 7]) (.agg #[.int .u8 0,.int .i64 7])) u = .ok true u:=fun u=>by kernel_rfl
 have cne:¬ cW=16:=by omega
 refine wp_region_plan (S:=fun W=>Ext w11 W) (R:=Ext) [false,false,false,false,false,false,false,false,false,false,false,false,false,false,false,false,false,false,false,false,false,false,false,false,false,false,true,false,false,false,false,false,false,false,false,false,false,false,false,false,false,false,false,false,false,false,false,false,false,false,false,false,false,false,false,false,false,false,false,false,false,false,false,false,false,false,false,false,false,false,false,false,false,false,false,false,false,false,false,false,false,false,false,false,false,false,true,false,false,false,false,false,false,false,false,false,false,false,false,false,false,false,false,false] (by kernel_rfl) Ext.refl (fun _ _ _=>Ext.trans) (by kernel_rfl) (fun _ _ d _ _ h=>by cases d <;> exact h) (by kernel_rfl) exx ?_
 intro ops hops';have hops:=hZ hops';clear hops'
 refine' tkP hops ?_
 refine' tkP hops ?_
 refine' tkQ hops ?hy2_945 ?_
 case hy2_945=>(intro w hSw;(obtain ⟨qa_0,qa_1,qa_2,qa_3,qa_4,qa_5,qa_6,qa_7,qa_8,qa_9,qa_10,qa_11,qa_12,qa_13,qa_14,qa_15,qa_16,qa_17,qa_18,qa_19⟩:=FX.out _ (E11.trans hSw);obtain ⟨p1,p2,p3⟩:=G11.out _ hSw);go_simp;try with_reducible rfl)
 refine layy ?_
 refine' tkP hops ?_
 refine' tkP hops ?_
 refine' tkP hops ?_
 refine' tkP hops ?_
 refine' tkP hops ?_
 refine' tkP hops ?_
 refine' tkP hops ?_
 refine' tkP hops ?_
 refine' tkP hops ?_
 refine' tkP hops ?_
 refine' tkP hops ?_
 refine' tkP hops ?_
 refine' tkP hops ?_
 refine' tkP hops ?_
 refine' tkP hops ?_
 refine' tkP hops ?_
 refine' tkP hops ?_
 refine' tkP hops ?_
 refine' tkP hops ?_
 refine' tkP hops ?_
 refine' tkP hops ?_
 refine' tkP hops ?_
 refine' tkP hops ?_
 refine Plan.run (fun v W=>∃ g,v = .slice (some ⟨g,0,none⟩) 23 23/\SliceAt W (some ⟨g,0,none⟩) 23 lastWords/\Ext w11 W) (by first | rfl | (rw [hops.out];rfl)) ?run26 ?vs26 ?next26
 case run26=>
  intro w' _ s;refine .inl ⟨58,#[], ?_,(last_any w').mono ?_⟩
  . go_simp
  rintro e w'' ⟨rfl,rfl⟩;exact ⟨_,rfl,w'.heap.size,rfl,lit_ints (by decide) (by decide) _,Ext.alloc s _⟩
 case vs26=>
  rintro v W ⟨g,rfl,_,h⟩ W' k;exact h.trans k
 rintro v w12 ⟨gl,rfl,SL,E12⟩
 have SLH:=hZ SL
 clear SL
 refine layy ?_
 have RS1:SliceAt w12 (some ⟨gW,16,none⟩) (cW-16) (Aw.S4.words.drop 16):=by have:=RWS.out w12 (E11.trans E12);rwa [Nat.zero_add] at this
 have RS1H:=hZ RS1
 clear RS1
 refine' Plan.take (v:=.bool true) (Or.inr ⟨by first | rfl | (rw [hops.out];rfl),24,_, ?hx27, ?hy27⟩) ?rest27
 case hx27=>(intro w hSw;go_simp;try with_reducible rfl)
 case hy27=>exact fun w hE=>(SMH.out w _ _ _ _ (RS1H.out.ext hE) (SLH.out.ext hE)).mono (fun _ _ h=>⟨h.1,h.2,Ext.trans hE h.2⟩)
 refine layy ?_
 have E12':=E11.trans E12
 refine' tkP hops ?_
 refine' tkP hops ?_
 refine' tkP hops ?_
 refine' tkP hops ?_
 refine' tkQ hops ?hy32_973 ?_
 case hy32_973=>(intro w hSw;(obtain ⟨qa_0,qa_1,qa_2,qa_3,qa_4,qa_5,qa_6,qa_7,qa_8,qa_9,qa_10,qa_11,qa_12,qa_13,qa_14,qa_15,qa_16,qa_17,qa_18,qa_19⟩:=FX.out _ (E12'.trans hSw);obtain ⟨p1,p2,p3⟩:=G11.out _ (E12.trans hSw));go_simp;try with_reducible rfl)
 refine layy ?_
 refine' tkP hops ?_
 refine' tkP hops ?_
 refine' tkP hops ?_
 refine' tkP hops ?_
 refine' tkP hops ?_
 refine' tkQ hops ?hy38_979 ?_
 case hy38_979=>(intro w hSw;(obtain ⟨qa_0,qa_1,qa_2,qa_3,qa_4,qa_5,qa_6,qa_7,qa_8,qa_9,qa_10,qa_11,qa_12,qa_13,qa_14,qa_15,qa_16,qa_17,qa_18,qa_19⟩:=FX.out _ (E12'.trans hSw);obtain ⟨p1,p2,p3⟩:=G11.out _ (E12.trans hSw));go_simp;try with_reducible rfl)
 refine layy ?_
 refine' tkP hops ?_
 refine' tkP hops ?_
 refine' tkP hops ?_
 refine' tkP hops ?_
 refine' tkP hops ?_
 refine' tkQ hops ?hy44_985 ?_
 case hy44_985=>(intro w hSw;(obtain ⟨qa_0,qa_1,qa_2,qa_3,qa_4,qa_5,qa_6,qa_7,qa_8,qa_9,qa_10,qa_11,qa_12,qa_13,qa_14,qa_15,qa_16,qa_17,qa_18,qa_19⟩:=FX.out _ (E12'.trans hSw);obtain ⟨p1,p2,p3⟩:=G11.out _ (E12.trans hSw));go_simp;try with_reducible rfl)
 refine layy ?_
 refine' tkP hops ?_
 refine' tkP hops ?_
 refine' tkP hops ?_
 refine' tkP hops ?_
 refine' tkP hops ?_
 refine' tkQ hops ?hy50_991 ?_
 case hy50_991=>(intro w hSw;(obtain ⟨qa_0,qa_1,qa_2,qa_3,qa_4,qa_5,qa_6,qa_7,qa_8,qa_9,qa_10,qa_11,qa_12,qa_13,qa_14,qa_15,qa_16,qa_17,qa_18,qa_19⟩:=FX.out _ (E12'.trans hSw);obtain ⟨p1,p2,p3⟩:=G11.out _ (E12.trans hSw));go_simp;try with_reducible rfl)
 refine layy ?_
 refine' tkP hops ?_
 refine' tkP hops ?_
 refine' tkP hops ?_
 refine' tkP hops ?_
 refine' tkP hops ?_
 refine' tkP hops ?_
 refine' tkP hops ?_
 refine' tkP hops ?_
 refine' tkP hops ?_
 refine' tkP hops ?_
 refine' tkP hops ?_
 refine' tkP hops ?_
 refine' tkP hops ?_
 refine' tkP hops ?_
 refine' tkP hops ?_
 refine' tkP hops ?_
 refine' tkP hops ?_
 refine' tkP hops ?_
 refine' tkP hops ?_
 refine' tkQ hops ?hy70_1011 ?_
 case hy70_1011=>(intro w hSw;(obtain ⟨qa_0,qa_1,qa_2,qa_3,qa_4,qa_5,qa_6,qa_7,qa_8,qa_9,qa_10,qa_11,qa_12,qa_13,qa_14,qa_15,qa_16,qa_17,qa_18,qa_19⟩:=FX.out _ (E12'.trans hSw);obtain ⟨p1,p2,p3⟩:=G11.out _ (E12.trans hSw));go_simp;try with_reducible rfl)
 refine layy ?_
 refine' tkP hops ?_
 refine' tkP hops ?_
 refine' tkP hops ?_
 refine' tkP hops ?_
 refine' tkP hops ?_
 refine' tkP hops ?_
 refine' tkP hops ?_
 refine' tkP hops ?_
 refine' tkP hops ?_
 refine' tkQ hops ?hy80_1021 ?_
 case hy80_1021=>(intro w hSw;(obtain ⟨qa_0,qa_1,qa_2,qa_3,qa_4,qa_5,qa_6,qa_7,qa_8,qa_9,qa_10,qa_11,qa_12,qa_13,qa_14,qa_15,qa_16,qa_17,qa_18,qa_19⟩:=FX.out _ (E12'.trans hSw);obtain ⟨p1,p2,p3⟩:=G11.out _ (E12.trans hSw));go_simp;try with_reducible rfl)
 refine layy ?_
 refine' tkP hops ?_
 refine' tkP hops ?_
 refine' tkP hops ?_
 refine' tkP hops ?_
 refine' tkQ hops ?hy85_1026 ?_
 case hy85_1026=>(intro w hSw;(obtain ⟨qa_0,qa_1,qa_2,qa_3,qa_4,qa_5,qa_6,qa_7,qa_8,qa_9,qa_10,qa_11,qa_12,qa_13,qa_14,qa_15,qa_16,qa_17,qa_18,qa_19⟩:=FX.out _ (E12'.trans hSw);obtain ⟨p1,p2,p3⟩:=G11.out _ (E12.trans hSw));go_simp;try with_reducible rfl)
 refine layy ?_
 refine Plan.run (fun v W=>∃ g,v = .slice (some ⟨g,0,none⟩) 2 2/\SliceAt W (some ⟨g,0,none⟩) 2 [17,22]/\Ext w12 W) (by first | rfl | (rw [hops.out];rfl)) ?run86 ?vs86 ?next86
 case run86=>
  intro w' _ s;refine .inr ⟨.slice (some ⟨w'.heap.size,0,none⟩) 2 2,w'.alloc (.cells #[.int .i64 17,.int .i64 22] 3), ?_,w'.heap.size,rfl,SliceAt.two w' 17 22 (by omega) (by omega) _,Ext.alloc s _⟩;go_simp
 case vs86=>
  rintro v W ⟨g,rfl,_,h⟩ W' k;exact h.trans k
 rintro v w13 ⟨gk,rfl,SK,E13⟩
 have SK13:=hZ SK
 clear SK
 refine layy ?_
 refine' Plan.take (v:=.bool true) (Or.inr ⟨by first | rfl | (rw [hops.out];rfl),24,_, ?hx87, ?hy87⟩) ?rest87
 case hx87=>(intro w hSw;go_simp;try with_reducible rfl)
 case hy87=>exact fun w hE=>(SKH.out w _ _ _ _ (R8S.out _ ((E12'.trans E13).trans hE)) (SK13.out.ext hE)).mono (fun _ _ h=>⟨h.1,h.2,Ext.trans hE h.2⟩)
 refine layy ?_
 have E13':=E12.trans E13
 have E13'':=E12'.trans E13
 refine' tkP hops ?_
 refine' tkP hops ?_
 refine' tkQ hops ?hy90_1029 ?_
 case hy90_1029=>(intro w hSw;(obtain ⟨qa_0,qa_1,qa_2,qa_3,qa_4,qa_5,qa_6,qa_7,qa_8,qa_9,qa_10,qa_11,qa_12,qa_13,qa_14,qa_15,qa_16,qa_17,qa_18,qa_19⟩:=FX.out _ (E13''.trans hSw);obtain ⟨p1,p2,p3⟩:=G11.out _ (E13'.trans hSw));go_simp;try with_reducible rfl)
 refine layy ?_
 refine' tkP hops ?_
 refine' tkP hops ?_
 refine' tkP hops ?_
 refine' tkP hops ?_
 refine' tkP hops ?_
 refine' tkP hops ?_
 refine' tkP hops ?_
 refine' tkP hops ?_
 refine' tkQ hops ?hy99_1038 ?_
 case hy99_1038=>(intro w hSw;(obtain ⟨qa_0,qa_1,qa_2,qa_3,qa_4,qa_5,qa_6,qa_7,qa_8,qa_9,qa_10,qa_11,qa_12,qa_13,qa_14,qa_15,qa_16,qa_17,qa_18,qa_19⟩:=FX.out _ (E13''.trans hSw);obtain ⟨p1,p2,p3⟩:=G11.out _ (E13'.trans hSw));go_simp;try with_reducible rfl)
 refine layy ?_
 refine' tkP hops ?_
 refine' tkP hops ?_
 refine' tkP hops ?_
 refine' tkP hops ?_
 refine Plan.done ?_
 intro w14 _ E14
 go_wp2_with fail
 go_returns
 exact ⟨rfl,(X9H.out.trans E13'').trans E14⟩
end Go.Proofs.YtdokmmhjmclmnaaGreat
