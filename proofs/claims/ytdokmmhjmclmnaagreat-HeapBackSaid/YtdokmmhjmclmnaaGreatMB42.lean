/-
  Part 42 of a proof: HB2.
-/
import Derived.Test.YtdokmmhjmclmnaaGreatMB41
set_option linter.unusedSimpArgs false
set_option linter.unusedVariables false
set_option linter.unusedSectionVars false
set_option linter.unnecessarySimpa false
namespace Go.Proofs.YtdokmmhjmclmnaaGreat
open Go.RowKit Go.Maps
structure BkSt (w W:World) (gd:Nat) (v0 v1 v2 v3 v4:Value) (hd:Hd) (S:Hp.Hs):Prop where
 ext:Ext w W
 g:Own5 W gd v0 v1 v2 v3 v4
 h:HAt W hd S
 lo:∀ b ∈ hd.own,w.heap.size ≤ b ∧ b ≠ gd
namespace BkSt
variable {w W W':World} {gd:Nat} {v0 v1 v2 v3 v4:Value} {hd:Hd} {S S':Hp.Hs}
theorem ext' (h:BkSt w W gd v0 v1 v2 v3 v4 hd S) (k:Ext W W'):BkSt w W' gd v0 v1 v2 v3 v4 hd S:=⟨h.ext.trans k,h.g.ext k,h.h.ext k,h.lo⟩
theorem heap (h:BkSt w W gd v0 v1 v2 v3 v4 hd S) (k:Now W W' hd S'):BkSt w W' gd v0 v1 v2 v3 v4 hd S':=
 ⟨k.but.toExt h.ext fun b hb=>(h.lo b hb).1,h.g.but k.but fun hm=>(h.lo _ hm).2 rfl,k.toHAt,h.lo⟩
end BkSt
set_option maxRecDepth 100000 in
set_option maxHeartbeats 16000000 in
theorem heapBack {w:World} {L:DgL} {d:Nd.Dia} {more:Int} (h:DgPar w L d) (hm:0 ≤ more ∧ more ≤ 255) :
    Calls Tryz.prog 5 #[dgV L d.sizes.length d.order.length d.ends.length d.nodes.length d.root,.int .u8 more] w fun e w'=>e = .returned (.bool true) ∧ Ext w w':=by
  have TH:=Lib.hid (fun W (hE:Ext w W)=>thin14 (h.ext hE).rd);have H:=Lib.hid h
  cases ht:thinD d with
  | false=>
   rw [ht] at TH;clear h hm ht H;generalize d.sizes.length=n1 at *;generalize d.order.length=n2 at *;generalize d.ends.length=n3 at *;generalize d.nodes.length=n4 at *;generalize d.root=rt at *;unfold dgV DgL.cells at *;go_enter Tryz.func5,Tryz.ntmps5
   go_wp2_with (first
    | (go_at_call 34;refine (TH.out _ (exx)).mono ?_;rintro e w1 ⟨rfl,hb1⟩;obtain ⟨hc1,hf1,hs1⟩:=hb1.cells;have hz1_0:w.heap.size < w1.heap.size:=(by have h:=hb1.le;(try simp at h);omega);have hc1_0:=hb1.cell (b:=w.heap.size) (by first | omega | (simp;done) | (simp;omega));have hf1_0:=hb1.frozen (b:=w.heap.size) (by first | omega | (simp;done) | (simp;omega)))
    | (go_at_call 15;refine (awake_any _).mono ?_;rintro e w2 ⟨rfl,hb2⟩))
   go_returns;exact ⟨rfl,exx⟩
  | true=>
   rw [ht] at TH;have hN:=h.num ht;have CK:=Lib.hid (fun W (hE:Ext w W)=>dCheck (h.ext hE).rd hN)
   by_cases hce:checkE d=0
   case neg=>
    have t0:(checkE d != 0)=true:=by simpa using hce
    clear h hm ht H hN hce;generalize checkE d=ce at *;generalize d.sizes.length=n1 at *;generalize d.order.length=n2 at *;generalize d.ends.length=n3 at *;generalize d.nodes.length=n4 at *;generalize d.root=rt at *;unfold dgV DgL.cells at *;go_enter Tryz.func5,Tryz.ntmps5
    go_wp2_with (first
     | (go_at_call 34;refine (TH.out _ (exx)).mono ?_;rintro e w1 ⟨rfl,hb1⟩;obtain ⟨hc1,hf1,hs1⟩:=hb1.cells;have hz1_0:w.heap.size < w1.heap.size:=(by have h:=hb1.le;(try simp at h);omega);have hc1_0:=hb1.cell (b:=w.heap.size) (by first | omega | (simp;done) | (simp;omega));have hf1_0:=hb1.frozen (b:=w.heap.size) (by first | omega | (simp;done) | (simp;omega)))
     | (go_at_call 35;refine (CK.out _ (exx)).mono ?_;rintro e w2 ⟨rfl,hb2⟩;obtain ⟨hc2,hf2,hs2⟩:=hb2.cells;have hz2_0:w.heap.size < w2.heap.size:=(by have h:=hb2.le;(try simp at h);omega);have hc2_0:=hb2.cell (b:=w.heap.size) (by first | omega | (simp;done) | (simp;omega));have hf2_0:=hb2.frozen (b:=w.heap.size) (by first | omega | (simp;done) | (simp;omega)))
     | (go_at_call 15;refine (awake_any _).mono ?_;rintro e w3 ⟨rfl,hb3⟩))
    go_returns;exact ⟨rfl,exx⟩
   case pos=>
    rw [hce] at CK;obtain ⟨hle,his⟩:=checkE_ok hce;obtain ⟨hfr,hlb⟩:=looseE_ok hle;have fr:=(Hp.frameErr_ok hfr).1;have hL:=looseB_Loose fr hlb fun v hv=>(h.f v hv).1.1
    obtain ⟨m0,rfl⟩:∃ m:Nat,more=(m:Int):=⟨more.toNat,by omega⟩
    have hm9:m0 ≤ 255:=by omega
    obtain ⟨S,hS,hSz,hSo,hG,hput⟩:=back_put (k:=83+m0) (by omega) (by omega) hL his;rw [show 17+(83+m0)=100+m0 by omega] at hS;obtain ⟨f1,f2,f3,f4,f5⟩:=thinD_facts ht;have fz:=fr.toFr.few;have IZ:=Lib.hid (fun W (hE:Ext w W)=>ints_any (h.ext hE).rd.s h.nil.zs (by omega));have IO:=Lib.hid (fun W (hE:Ext w W)=>ints_any (h.ext hE).rd.o h.nil.os (by omega));have CP:=Lib.hid (fun W (hE:Ext w W)=>show Calls Tryz.prog 38 #[dgV L d.sizes.length d.order.length d.ends.length d.nodes.length d.root] W fun e w'=>∃ M:DgL,e = .returned (dgV M d.sizes.length d.order.length d.ends.length d.nodes.length d.root) ∧ DgRd w' M d.sizes d.order d.ends d.nodes ∧ Ext W w' ∧ (∀ b ∈ M.blocks,W.heap.size ≤ b ∧ b < w'.heap.size) ∧ (0 < d.order.length ∨ M.po=none) from copy14 (h.ext hE).rd h.nil (by omega) (by omega) (by omega) (by omega) (fun q hq=>by have:=f5 q hq;omega));have NW:=Lib.hid (fun W (p q:Option Addr) (c e:Nat) (hs:SliceAt W p c d.sizes) (ho:SliceAt W q e d.order) (hp:0 < d.sizes.length ∨ p=none) (hq:0 < d.order.length ∨ q=none)=>New_any hs ho hp hq (by omega) fz (n:=100+m0) (by omega) (by omega) (by unfold Hp.newErr;rw [if_neg (by omega)];simp [Hp.within];omega) hS fr.toFr.pos)
    have PU:=Lib.hid (fun W hd (M:DgL) (x er:Int) (S0 S':Hp.Hs) (hA:HAt W hd S0) (hM:DgRd W M d.sizes d.order d.ends d.nodes) (on:0 < d.order.length ∨ M.po=none) (e1:S0.sizes=d.sizes) (e2:S0.order=d.order) (hg:∃ B,Hp.Good S0 B) (hb:∀ b ∈ M.blocks,b < W.heap.size ∧ b ∉ hd.own) (hp:Nd.put d S0=some (x,er,S'))=>(by
     obtain ⟨B,hg⟩:=hg;exact put_good hA hM (h.numN ht on) hce e1.symm e2.symm hg hb hp:Calls Tryz.prog 37 #[.pointer (some ⟨hd.hb,0,none⟩),dgV M d.sizes.length d.order.length d.ends.length d.nodes.length d.root] W (PutPost W hd x er S')))
    have DEQ:=Lib.hid (fun W (hE:Ext w W) (M:DgL) (hM:DgRd W M d.sizes d.order d.ends d.nodes)=>(by
     have:=dEqual_loop (x:=d.root) hM (h.ext hE).rd rfl;rw [decide_eq_true rfl] at this;exact this:Calls Tryz.prog 27 #[.agg #[.slice M.ps d.sizes.length M.cs,.slice M.po d.order.length M.co,.slice M.pe d.ends.length M.ce,.slice M.pn d.nodes.length M.cn,.int .i64 d.root],.agg #[.slice L.ps d.sizes.length L.cs,.slice L.po d.order.length L.co,.slice L.pe d.ends.length L.ce,.slice L.pn d.nodes.length L.cn,.int .i64 d.root]] W fun e w'=>e = .returned (.bool true) ∧ Ext W w'))
    have HS:=Lib.hid (show S.sizes=d.sizes ∧ S.order=d.order ∧ Hp.Good S 0 from ⟨hSz,hSo,hG⟩);have HPUT:=Lib.hid hput;clear h hm ht hN hce hle his hfr hlb hL hS hSz hSo hG hput f1 f2 f5 fz fr;obtain ⟨n1,h1⟩:∃ n,d.sizes.length=n:=⟨_,rfl⟩
    obtain ⟨n2,h2⟩:∃ n,d.order.length=n:=⟨_,rfl⟩
    obtain ⟨n3,h3⟩:∃ n,d.ends.length=n:=⟨_,rfl⟩
    obtain ⟨n4,h4⟩:∃ n,d.nodes.length=n:=⟨_,rfl⟩
    obtain ⟨rt,h5⟩:∃ n,d.root=n:=⟨_,rfl⟩
    have HQ:=Lib.hid (show d.sizes.length=n1 ∧ d.order.length=n2 ∧ d.ends.length=n3 ∧ d.nodes.length=n4 ∧ d.root=rt from ⟨h1,h2,h3,h4,h5⟩);rw [h1,h2,h3,h4,h5] at TH CK CP PU DEQ ⊢;rw [h1,h2] at NW;rw [h1] at IZ;rw [h2] at IO;rw [h3] at f3;rw [h4] at f4;clear h1 h2 h3 h4 h5;unfold dgV DgL.cells at TH CK CP PU ⊢;have mixed:Tryz.prog.follows .mixedOrders=true:=by kernel_rfl
    have wm:IntKind.i64.wrap (m0:Int)=(m0:Int):=IntWalk.i64_in _ (by omega);have wa:IntKind.i64.wrap (100+(m0:Int))=100+(m0:Int):=IntWalk.i64_in _ (by omega);go_enter Tryz.func5,Tryz.ntmps5
    go_upto_region 3 with (first
     | (go_at_call 34;refine (TH.out _ (exx)).mono ?_;rintro e w1 ⟨rfl,hb1⟩;obtain ⟨hc1,hf1,hs1⟩:=hb1.cells;have hz1_0:w.heap.size < w1.heap.size:=(by have h:=hb1.le;(try simp at h);omega);have hc1_0:=hb1.cell (b:=w.heap.size) (by first | omega | (simp;done) | (simp;omega));have hf1_0:=hb1.frozen (b:=w.heap.size) (by first | omega | (simp;done) | (simp;omega)))
     | (go_at_call 35;refine (CK.out _ (exx)).mono ?_;rintro e w2 ⟨rfl,hb2⟩;obtain ⟨hc2,hf2,hs2⟩:=hb2.cells;have hz2_0:w.heap.size < w2.heap.size:=(by have h:=hb2.le;(try simp at h);omega);have hc2_0:=hb2.cell (b:=w.heap.size) (by first | omega | (simp;done) | (simp;omega));have hf2_0:=hb2.frozen (b:=w.heap.size) (by first | omega | (simp;done) | (simp;omega))))
    refine cut_world (F:=fun W=>Hid (Ext w W) ∧ Hid (Own5 W w.heap.size (.slice L.ps n1 L.cs) (.slice L.po n2 L.co) (.slice L.pe n3 L.ce) (.slice L.pn n4 L.cn) (.int .i64 rt))) ⟨Lib.hid (exx),Lib.hid ⟨by go_simp,by go_simp,by go_simp,by go_simp,by go_simp,fun o=>by go_simp⟩⟩ ?_;intro w1 ⟨E1,O1⟩;clear hb2 hc2 hf2 hs2 hz2_0 hc2_0 hf2_0 hb1 hc1 hf1 hs1 hz1_0 hc1_0 hf1_0 TH CK;generalize w.heap.size=gd at O1 ⊢;have zg:=cell_lt O1.out.a0;refine wp_region_seq (S:=fun W=>Ext w1 W) (R:=Ext) (by kernel_rfl) Ext.refl ?_ ?_
    · exact exx
    refine' tkL 0 rfl ?h0_1 ?_
    case h0_1=>(intro w hSw;(obtain ⟨g0,g1,g2,g3,g4,gz⟩:=O1.out.ext hSw);go_simp;try with_reducible rfl)
    refine layy ?_;refine' tkL 1 rfl ?h1_2 ?_
    case h1_2=>(intro w hSw;(obtain ⟨g0,g1,g2,g3,g4,gz⟩:=O1.out.ext hSw);go_simp;try with_reducible rfl)
    refine layy ?_;refine' tkL 3 rfl ?h3_3 ?_
    case h3_3=>(intro w hSw;(obtain ⟨g0,g1,g2,g3,g4,gz⟩:=O1.out.ext hSw);go_simp;try with_reducible rfl)
    refine layy ?_;refine' tkL 4 rfl ?h4_4 ?_
    case h4_4=>(intro w hSw;(obtain ⟨g0,g1,g2,g3,g4,gz⟩:=O1.out.ext hSw);go_simp;try with_reducible rfl)
    refine layy ?_;refine' tkL 6 rfl ?h6_5 ?_
    case h6_5=>(intro w hSw;(obtain ⟨g0,g1,g2,g3,g4,gz⟩:=O1.out.ext hSw);go_simp;try with_reducible rfl)
    refine layy ?_;refine' tkL 7 rfl ?h7_6 ?_
    case h7_6=>(intro w hSw;(obtain ⟨g0,g1,g2,g3,g4,gz⟩:=O1.out.ext hSw);go_simp;try with_reducible rfl)
    refine layy ?_;refine' tkL 8 rfl ?h8_7 ?_
    case h8_7=>(intro w hSw;(obtain ⟨g0,g1,g2,g3,g4,gz⟩:=O1.out.ext hSw);go_simp;try with_reducible rfl)
    refine layy ?_;refine wpAnyR_do1 2 (fun u W=>∃ p c,u = .slice p n1 c ∧ Ext w1 W ∧ SliceAt W p c d.sizes ∧ (0 < n1 ∨ p=none)) rfl (by kernel_rfl) (by rfl) ?run2 ?vs2 ?next2
    case run2=>
     intro w' hE hS;refine .inl ⟨17,#[.slice L.ps n1 L.cs],by go_simp,(IZ.out _ (E1.out.trans (((Ext.drew (Ext.refl w1)).trans hE)))).mono ?_⟩;rintro e W ⟨p,c,rfl,hR,hE',h0⟩;exact ⟨_,rfl,p,c,by rw [HQ.out.1],((Ext.drew (Ext.refl w1)).trans hE).trans hE',hR.at_,by rw [← HQ.out.1];exact h0⟩
    case vs2=>
     rintro u W ⟨p,c,_,hE,_⟩ W' hW;exact hE.trans hW
    case next2=>
    rintro u w2 ⟨p2,c2,rfl,hE2,hS2,h02⟩;have S2:=Lib.hid hS2;have E2:=Lib.hid hE2;have Z2:=Lib.hid h02;clear hS2 hE2 h02;refine layy ?_;refine wpAnyR_do1 5 (fun u W=>∃ p c,u = .slice p n2 c ∧ Ext w2 W ∧ SliceAt W p c d.order ∧ (0 < n2 ∨ p=none)) rfl (by kernel_rfl) (by rfl) ?run5 ?vs5 ?next5
    case run5=>
     intro w' hE hS;refine .inl ⟨17,#[.slice L.po n2 L.co],by go_simp,(IO.out _ (E1.out.trans (E2.out.trans hE))).mono ?_⟩;rintro e W ⟨p,c,rfl,hR,hE',h0⟩;exact ⟨_,rfl,p,c,by rw [HQ.out.2.1],hE.trans hE',hR.at_,by rw [← HQ.out.2.1];exact h0⟩
    case vs5=>
     rintro u W ⟨p,c,_,hE,_⟩ W' hW;exact hE.trans hW
    case next5=>
    rintro u w3 ⟨p3,c3,rfl,hE3,hS3,h03⟩;have S3:=Lib.hid hS3;have E3:=Lib.hid hE3;have Z3:=Lib.hid h03;clear hS3 hE3 h03;refine layy ?_;refine wpAnyR_do1 9 (fun u W=>∃ hd:Hd,u = .tuple #[.pointer (some ⟨hd.hb,0,none⟩),.int .i64 0] ∧ Ext w3 W ∧ HAt W hd S ∧ (∀ b ∈ hd.own,w3.heap.size ≤ b)) rfl (by kernel_rfl) (by rfl) ?run9 ?vs9 ?next9
    case run9=>
     intro w' hE hS;refine .inl ⟨36,#[.slice p2 n1 c2,.slice p3 n2 c3,.int .i64 (100+m0:Nat)],by go_simp,(NW.out w' p2 p3 c2 c3 (S2.out.ext (E3.out.trans hE)) (S3.out.ext hE) Z2.out Z3.out).mono ?_⟩;rintro e W ⟨hd,rfl,hA,hO,hE',-⟩;exact ⟨_,rfl,hd,rfl,hE.trans hE',hA,fun b hb=>Nat.le_trans hE.le (hO b hb)⟩
    case vs9=>
     rintro u W ⟨hd,_,hE,_⟩ W' hW;exact hE.trans hW
    case next9=>
    rintro u w4 ⟨hd,rfl,hE4,hA4,hO4⟩;have B4:=Lib.hid (show BkSt w w4 gd (.slice L.ps n1 L.cs) (.slice L.po n2 L.co) (.slice L.pe n3 L.ce) (.slice L.pn n4 L.cn) (.int .i64 rt) hd S from ⟨E1.out.trans (E2.out.trans (E3.out.trans hE4)),O1.out.ext (E2.out.trans (E3.out.trans hE4)),hA4,fun b hb=>by
     have h1:=hO4 b hb;have h2:=E1.out.le;have h3:=E2.out.le;have h4:=E3.out.le;omega⟩)
    clear hE4 hA4 hO4 S2 S3 Z2 Z3 E2 E3 IZ IO NW O1 E1 zg;refine layy ?_;refine' tkL 10 rfl ?h10_8 ?_
    case h10_8=>(intro w _;go_simp;try with_reducible rfl)
    refine layy ?_;refine' tkL 11 rfl ?h11_9 ?_
    case h11_9=>(intro w _;go_simp;try with_reducible rfl)
    refine layy ?_;refine' tkL 12 rfl ?h12_10 ?_
    case h12_10=>(intro w _;go_simp;try with_reducible rfl)
    refine layy ?_;refine' tkL 13 rfl ?h13_11 ?_
    case h13_11=>(intro w _;go_simp;try with_reducible rfl)
    refine layy ?_;refine' tkL 14 rfl ?h14_12 ?_
    case h14_12=>(intro w _;go_simp;try with_reducible rfl)
    refine layy ?_;refine wpAnyR_done (by kernel_rfl) ?_ _;intro w5 _ Ew5;have B5:=Lib.hid (B4.out.ext' Ew5);clear Ew5 B4;obtain ⟨g0,g1,g2,g3,g4,gz⟩:=B5.out.g
    rcases HPUT.out with ⟨S',hp,h4x⟩ | ⟨x,S',hp,hb⟩
    · have HP:=Lib.hid hp;rw [HQ.out.2.2.1,HQ.out.2.2.2.1] at h4x
      go_upto_region 5 with (first
       | (go_at_call 38;refine (CP.out _ (B5.out.ext.trans (exx))).mono ?_;rintro e w6 ⟨M,rfl,hM,hE6,hB6,hon⟩)
       | (go_at_call 37;refine (PU.out _ hd M 0 8 S S' (B5.out.h.ext hE6) hM hon HS.out.1 HS.out.2.1 ⟨0,HS.out.2.2⟩ (fun b hb=>⟨(hB6 b hb).2,fun hm=>by have h1:=(hB6 b hb).1;have h2:=B5.out.h.own_lt b hm;omega⟩) HP.out).mono ?_;rintro e w7 ⟨rfl,hN7⟩))
      have B7:=Lib.hid ((B5.out.ext' hE6).heap hN7);clear g0 g1 g2 g3 g4 gz;obtain ⟨g0,g1,g2,g3,g4,gz⟩:=B7.out.g;have ws:IntKind.i64.wrap ((n4:Int)+(n3:Int))=(n4:Int)+(n3:Int):=IntWalk.i64_in _ (by omega);have t4:decide ((n4:Int)+(n3:Int) > 4)=true:=decide_eq_true (by omega);have B7E:=Lib.hid B7.out.ext;clear hM hE6 hB6 hon hN7 B5
      go_wp2_with (go_at_call 15;refine (awake_any _).mono ?_;rintro e w8 ⟨rfl,hb8⟩)
      go_returns;exact ⟨rfl,B7E.out.trans hb8⟩
    · have HP:=Lib.hid hp;have HB:=Lib.hid hb;clear hb
      go_upto_region 7 with (first
       | (go_at_call 38;refine (CP.out _ (B5.out.ext.trans (exx))).mono ?_;rintro e w6 ⟨M,rfl,hM,hE6,hB6,hon⟩)
       | (go_at_call 37;refine (PU.out _ hd M x 0 S S' (B5.out.h.ext hE6) hM hon HS.out.1 HS.out.2.1 ⟨0,HS.out.2.2⟩ (fun b hb=>⟨(hB6 b hb).2,fun hm=>by have h1:=(hB6 b hb).1;have h2:=B5.out.h.own_lt b hm;omega⟩) HP.out).mono ?_;rintro e w7 ⟨rfl,hN7⟩))
      have B7:=Lib.hid ((B5.out.ext' hE6).heap hN7);clear g0 g1 g2 g3 g4 gz hM hE6 hB6 hon hN7 B5;obtain ⟨a,rfl,hat,D,hD,hDe,hDn⟩:=HB.out.rt;obtain ⟨BB,LL,ch,hwf⟩:=HB.out.wf;have pos:0 < S'.words.length:=by have:=hwf.lo;omega
      have POS:=Lib.hid pos;have DG:=Lib.hid (fun W (hA:HAt W hd S')=>show Calls Tryz.prog 23 #[.pointer (some ⟨hd.hb,0,none⟩),.int .i64 a] W fun e w'=>∃ LD:DgL,e = .returned (.tuple #[.agg #[.slice LD.ps n1 LD.cs,.slice LD.po n2 LD.co,.slice LD.pe n3 LD.ce,.slice LD.pn n4 LD.cn,.int .i64 rt],.int .i64 0]) ∧ DgRd w' LD d.sizes d.order d.ends d.nodes ∧ Ext W w' ∧ (∀ b ∈ LD.blocks,W.heap.size ≤ b ∧ b < w'.heap.size) from (Diagram_any hA hwf hat hD).mono fun e w' ⟨LD,he,hr,hE,hb⟩=>by
       rw [HB.out.sz,HB.out.or_,hDe,hDn] at hr;rw [HB.out.sz,HB.out.or_,hDe,hDn,HQ.out.1,HQ.out.2.1,HQ.out.2.2.1,HQ.out.2.2.2.1,HQ.out.2.2.2.2] at he;exact ⟨LD,he,hr,hE,hb⟩)
      obtain ⟨T,hT,-⟩:=Hp.live_le hwf;have ST:=Lib.hid (fun W (hA:HAt W hd S')=>Stats_any hA hT hwf.pieces_);rw [HB.out.many,HQ.out.2.2.1,HQ.out.2.2.2.1] at ST;have GW:=Lib.hid (show ∃ B,Hp.Good S' B from ⟨BB,LL,ch,hwf⟩);generalize T.length=tl at ST;generalize (S'.gapSums (Hp.piecesOf LL)).1=s1 at ST;generalize (S'.gapSums (Hp.piecesOf LL)).2=s2 at ST;clear hat hD hDe hDn hwf pos hT hp
      go_upto_region 9 with (first
       | (go_at_call 20;refine (Words_any (B7.out.h.ext (exx)) POS.out).mono ?_;rintro e w8 ⟨gw8,cw8,rfl,hR8,hE8⟩)
       | (go_at_call 23;refine (DG.out _ (B7.out.h.ext (exx))).mono ?_;rintro e w9 ⟨LD,rfl,hLD,hE9,hB9⟩))
      have B9:=Lib.hid (B7.out.ext' (hE8.trans hE9));refine cut_world (F:=fun W=>Hid (Ext w9 W) ∧ Hid (Own5 W w9.heap.size (.slice LD.ps n1 LD.cs) (.slice LD.po n2 LD.co) (.slice LD.pe n3 LD.ce) (.slice LD.pn n4 LD.cn) (.int .i64 rt))) ⟨Lib.hid (exx),Lib.hid ⟨by go_simp,by go_simp,by go_simp,by go_simp,by go_simp,fun o=>by go_simp⟩⟩ ?_;intro w10 ⟨E10,O10⟩;have B10:=Lib.hid (B9.out.ext' E10.out);have RW:=Lib.hid ((hR8.at_.ext hE9).ext E10.out);have LD10:=Lib.hid (hLD.ext E10.out);have OWN:=Lib.hid (show (∀ b ∈ hd.own,b < w7.heap.size) ∧ (∀ b o,(some ⟨gw8,0,none⟩:Option Addr)=some ⟨b,o,none⟩ → b ∉ hd.own) ∧ (∀ b ∈ hd.own,b ∉ LD.blocks) ∧ w9.heap.size ∉ hd.own from by
       have ol:=B7.out.h.own_lt;have h1:=hE8.le;have h2:=hE9.le;refine ⟨ol,fun b o e hm=>?_,fun b hb hm=>?_,fun hm=>?_⟩
       · have h3:=ol b hm;have h4:=hR8.far e;omega
       · have h3:=ol b hb;have h4:=(hB9 b hm).1;omega
       · have:=ol _ hm;omega)
      clear hR8 hE8 hLD hE9 hB9 B9 B7 DG;generalize w9.heap.size=gx at O10 OWN ⊢;obtain ⟨g0,g1,g2,g3,g4,gz⟩:=B10.out.g
      go_upto_region 10 with (first
       | (go_at_call 38;refine (CP.out _ (B10.out.ext.trans (exx))).mono ?_;rintro e w11 ⟨M,rfl,hM,hE11,hB11,hon⟩)
       | (go_at_call 37;refine (PU.out _ hd M a 0 S' S' (B10.out.h.ext hE11) hM hon HB.out.sz HB.out.or_ GW.out (fun b hb=>⟨(hB11 b hb).2,fun hm=>by have h1:=(hB11 b hb).1;have h2:=B10.out.h.own_lt b hm;omega⟩) HB.out.again).mono ?_;rintro e w12 ⟨rfl,hN12⟩))
      have B12:=Lib.hid ((B10.out.ext' hE11).heap hN12);have O12:=Lib.hid ((O10.out.ext hE11).but hN12.but OWN.out.2.2.2);have RW12:=Lib.hid ((RW.out.ext hE11).but hN12.but OWN.out.2.1);have LD12:=Lib.hid ((LD10.out.ext hE11).but hN12.but OWN.out.2.2.1);clear g0 g1 g2 g3 g4 gz hM hE11 hB11 hon hN12 B10 O10 RW LD10 PU CP;go_upto_region 11 with (go_at_call 21;refine (ST.out _ (B12.out.h.ext (exx))).mono ?_;rintro e w13 ⟨rfl,hb13⟩)
      refine cut_world (F:=fun W=>Hid (Ext w13 W) ∧ W.cell? ⟨w13.heap.size,0,none⟩=some (.int .i64 ((n3+n4:Nat):Int))) ⟨Lib.hid (exx),by go_simp⟩ ?_;intro w14 ⟨E14,t0⟩;have B14:=Lib.hid (B12.out.ext' (hb13.trans E14.out));have O14:=Lib.hid (O12.out.ext (hb13.trans E14.out));have RW14:=Lib.hid (RW12.out.ext (hb13.trans E14.out));have LD14:=Lib.hid (LD12.out.ext (hb13.trans E14.out));clear hb13 E14 B12 O12 RW12 LD12 ST;generalize w13.heap.size=ga at t0 ⊢;obtain ⟨g0,g1,g2,g3,g4,gz⟩:=B14.out.g;obtain ⟨x0,x1,x2,x3,x4,xz⟩:=O14.out;have za:=cell_lt t0;have zg:=cell_lt g0;have ws:IntKind.i64.wrap ((n4:Int)+(n3:Int))=(n4:Int)+(n3:Int):=IntWalk.i64_in _ (by omega);have tq:(((n3+n4:Nat):Int) == (n4:Int)+(n3:Int))=true:=by simp;omega
      have tq2:((n3:Int)+(n4:Int) == (n4:Int)+(n3:Int))=true:=by simp;omega
      have ta:((a:Int) == (a:Int))=true:=by simp
      have LW:=Lib.hid (fun W (hA:HAt W hd S')=>lWordsOf hA POS.out)
      go_wp2_with (first
       | (go_at_call 27;refine (DEQ.out _ B14.out.ext LD LD14.out).mono ?_;rintro e w15 ⟨rfl,hb15⟩)
       | (go_at_call 39;refine (LW.out _ (B14.out.h.ext hb15)).mono ?_;rintro e w16 ⟨g16,c16,rfl,hR16,hE16⟩)
       | (go_at_call 24;refine (dSame_is (b:=true) (decide_eq_true rfl) hR16.at_ (RW14.out.ext (hb15.trans hE16))).mono ?_;rintro e w17 ⟨rfl,hb17⟩;have k17:=(hb15.trans hE16).trans hb17;have t17:=(k17.cell za 0).trans t0;have g37:=(k17.cell zg 3).trans g3;have g27:=(k17.cell zg 2).trans g2)
       | (go_at_call 15;refine (awake_any _).mono ?_;rintro e w18 ⟨rfl,hb18⟩))
      go_returns;exact ⟨rfl,B14.out.ext.trans (k17.trans hb18)⟩
end Go.Proofs.YtdokmmhjmclmnaaGreat
