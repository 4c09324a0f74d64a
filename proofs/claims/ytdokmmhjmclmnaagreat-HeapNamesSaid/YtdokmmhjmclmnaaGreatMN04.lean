/-
  Part 4 of a proof: HFn10 HFn11 HFn12 HFn13.
-/
import Derived.Test.YtdokmmhjmclmnaaGreatMN03
set_option linter.unusedSimpArgs false
set_option linter.unusedVariables false
set_option linter.unusedSectionVars false
set_option linter.unnecessarySimpa false
namespace Go.Proofs.YtdokmmhjmclmnaaGreat
open Go.RowKit
def isL (S:Hp.Hs) (choice x:Int):Bool:=match (do Hp.ck (← S.tag (← Hp.adr x)):Option Int) with
 | some t=>decide (Hp.rank S.order t > Hp.rank S.order (choice+1))
 | none=>false
theorem laters_spec {S:Hp.Hs} {choice:Int}:∀ {l:List Int} {b:Bool},S.laters choice l=some b → l.all (isL S choice)=b ∧
    ∀ (j:Nat) (x:Int),Hp.rd l j=some x → (∀ i y,i < j → Hp.rd l i=some y → isL S choice y=true) → ∃ (a:Nat) (t:Int),x=a ∧ S.tag a=some t ∧ -4611686018427387904 < t ∧ t < 4611686018427387904
  | [],b,h=>by
   simp only [Hp.Hs.laters,Option.some.injEq] at h;subst h;exact ⟨rfl,fun j x hx=>by cases hx⟩
  | k :: r,b,h=>by
   simp only [Hp.Hs.laters,Option.bind_eq_bind,Option.bind_eq_some_iff] at h;obtain ⟨a,ha,t,ht,t',ht',h⟩:=h;have e:isL S choice k=decide (Hp.rank S.order t' > Hp.rank S.order (choice+1)):=by simp [isL,ha,ht,ht']
   obtain ⟨rfl,h1,h2⟩:=ck_some ht';have hka:=adr_some ha
   split at h
   · rename_i hr;obtain ⟨i1,i2⟩:=laters_spec h;have ek:isL S choice k=true:=by rw [e];exact decide_eq_true hr
     refine ⟨by rw [List.all_cons,ek,i1];rfl,fun j x hx hall=>?_⟩
     cases j with
     | zero=>
      have:k=x:=by simpa [Hp.rd] using hx
      subst this;exact ⟨a,t',hka,ht,h1,h2⟩
     | succ j=>exact i2 j x (by simpa [Hp.rd] using hx) (fun i y hi hy=>hall (i+1) y (by omega) (by simpa [Hp.rd] using hy))
   · rename_i hr;have ek:isL S choice k=false:=by rw [e];exact decide_eq_false hr
     simp only [Option.some.injEq] at h;subst h;refine ⟨by rw [List.all_cons,ek];rfl,fun j x hx hall=>?_⟩
     cases j with
     | zero=>
      have:k=x:=by simpa [Hp.rd] using hx
      subst this;exact ⟨a,t',hka,ht,h1,h2⟩
     | succ j=>
      have:=hall 0 k (by omega) rfl;rw [ek] at this
      cases this
theorem isL_eq {S:Hp.Hs} {choice t:Int} {a:Nat} (ht:S.tag a=some t) (h1 : -4611686018427387904 < t) (h2:t < 4611686018427387904):isL S choice a=decide (Hp.rank S.order t > Hp.rank S.order (choice+1)):=by
 have e:Hp.adr (a:Int)=some a:=by simp [Hp.adr]
 have e2:Hp.ck t=some t:=by simp [Hp.ck,h1,h2]
 simp [isL,e,ht,e2]
set_option maxHeartbeats 2000000 in
theorem checkNode1_any {w:World} {d:Hd} {S:Hp.Hs} {bx by' a:Nat} {choice t:Int} (h:HAt w d S) (hx:w.cell? ⟨bx,0,none⟩=some (.pointer (some ⟨d.hb,0,none⟩))) (hy:w.cell? ⟨by',0,none⟩=some (.int .i64 choice)) (hc1 : -1 ≤ choice) (hc2:choice ≤ 1000000)
    (ht:S.tag a=some t) (h1 : -4611686018427387904 < t) (h2:t < 4611686018427387904) :
    Calls Tryz.prog 158 #[.int .i64 a,.pointer (some ⟨bx,0,none⟩),.pointer (some ⟨by',0,none⟩)] w fun e w'=>e = .returned (.bool (isL S choice a)) ∧ Ext w w':=by
  rw [isL_eq ht h1 h2];have zx:=cell_lt hx;have zy:=cell_lt hy;have z1:=h.lt;have c0:=h.c0;have c1:=h.c1;have H:=Lib.hid h;have HT:=Lib.hid ht;clear h ht;have e1:IntKind.i64.wrap (choice+1)=choice+1:=IntWalk.i64_in _ (by omega);generalize hr1:Hp.rank S.order t=r1;generalize hr2:Hp.rank S.order (choice+1)=r2;have HR1:=Lib.hid hr1;have HR2:=Lib.hid hr2;clear hr1 hr2;go_enter Tryz.func158,Tryz.ntmps158
  go_wp2_with fail
  have PR6:=Lib.hid (fun (ww:World) (hSw:Ext w ww)=>And.intro ((hSw.cell zx 0).trans hx) (And.intro ((hSw.cell zy 0).trans hy) (And.intro ((hSw.cell z1 0).trans c0) ((hSw.cell z1 1).trans c1))));refine wp_region_seq (S:=fun W=>Ext w W) (R:=Ext) (by kernel_rfl) Ext.refl ?_ ?_
  · exact exx
  refine' tkL 0 rfl ?h0_82 ?_
  case h0_82=>(intro w q;obtain ⟨hx',hy',c0',c1'⟩:=PR6.out w q;go_simp;try with_reducible rfl)
  refine layy ?_;refine' tkL 1 rfl ?h1_83 ?_
  case h1_83=>(intro w q;obtain ⟨hx',hy',c0',c1'⟩:=PR6.out w q;go_simp;try with_reducible rfl)
  refine layy ?_;refine' tkL 2 rfl ?h2_84 ?_
  case h2_84=>(intro w q;obtain ⟨hx',hy',c0',c1'⟩:=PR6.out w q;go_simp;try with_reducible rfl)
  refine layy ?_;refine' tkL 3 rfl ?h3_85 ?_
  case h3_85=>(intro w q;obtain ⟨hx',hy',c0',c1'⟩:=PR6.out w q;go_simp;try with_reducible rfl)
  refine layy ?_;refine' tkL 4 rfl ?h4_86 ?_
  case h4_86=>(intro w q;obtain ⟨hx',hy',c0',c1'⟩:=PR6.out w q;go_simp;try with_reducible rfl)
  refine layy ?_;refine' tkL 5 rfl ?h5_87 ?_
  case h5_87=>(intro w q;obtain ⟨hx',hy',c0',c1'⟩:=PR6.out w q;go_simp;try with_reducible rfl)
  refine layy ?_;refine' tkR 6 (v:=.int .i64 t) rfl (Or.inr ⟨by rfl,76,_, ?hx6_88, ?hy6_88⟩) ?rest6_88
  case hx6_88=>(intro w hSw;go_simp;try with_reducible rfl)
  case hy6_88=>exact fun w hE=>(tag_any (H.out.ext hE).c2 rfl H.out.le H.out.cap (H.out.ext hE).words HT.out).mono (fun _ _ h=>⟨h.1,h.2,Ext.trans hE h.2⟩)
  refine layy ?_;refine' tkR 7 (v:=.int .i64 r1) rfl (Or.inr ⟨by rfl,126,_, ?hx7_89, ?hy7_89⟩) ?rest7_89
  case hx7_89=>(intro w hSw;go_simp;try with_reducible rfl)
  case hy7_89=>exact fun w hE=>((HR1.out ▸ rank_any (H.out.ext hE).order (by omega) (by omega))).mono (fun _ _ h=>⟨h.1,h.2,Ext.trans hE h.2⟩)
  refine layy ?_;refine' tkL 8 rfl ?h8_90 ?_
  case h8_90=>(intro w q;obtain ⟨hx',hy',c0',c1'⟩:=PR6.out w q;go_simp;try with_reducible rfl)
  refine layy ?_;refine' tkL 9 rfl ?h9_91 ?_
  case h9_91=>(intro w q;obtain ⟨hx',hy',c0',c1'⟩:=PR6.out w q;go_simp;try with_reducible rfl)
  refine layy ?_;refine' tkL 10 rfl ?h10_92 ?_
  case h10_92=>(intro w q;obtain ⟨hx',hy',c0',c1'⟩:=PR6.out w q;go_simp;try with_reducible rfl)
  refine layy ?_;refine' tkL 11 rfl ?h11_93 ?_
  case h11_93=>(intro w q;obtain ⟨hx',hy',c0',c1'⟩:=PR6.out w q;go_simp;try with_reducible rfl)
  refine layy ?_;refine' tkL 12 rfl ?h12_94 ?_
  case h12_94=>(intro w q;obtain ⟨hx',hy',c0',c1'⟩:=PR6.out w q;go_simp;try with_reducible rfl)
  refine layy ?_;refine' tkL 13 rfl ?h13_95 ?_
  case h13_95=>(intro w q;obtain ⟨hx',hy',c0',c1'⟩:=PR6.out w q;go_simp;try with_reducible rfl)
  refine layy ?_;refine' tkR 14 (v:=.int .i64 r2) rfl (Or.inr ⟨by rfl,126,_, ?hx14_96, ?hy14_96⟩) ?rest14_96
  case hx14_96=>(intro w hSw;go_simp;try with_reducible rfl)
  case hy14_96=>exact fun w hE=>((HR2.out ▸ rank_any (H.out.ext hE).order (by omega) (by omega))).mono (fun _ _ h=>⟨h.1,h.2,Ext.trans hE h.2⟩)
  refine layy ?_;refine' tkL 15 rfl ?h15_97 ?_
  case h15_97=>(intro w q;obtain ⟨hx',hy',c0',c1'⟩:=PR6.out w q;go_simp;try with_reducible rfl)
  refine layy ?_;refine' tkL 16 rfl ?h16_98 ?_
  case h16_98=>(intro w q;obtain ⟨hx',hy',c0',c1'⟩:=PR6.out w q;go_simp;try with_reducible rfl)
  refine layy ?_;refine wpAnyR_done (by kernel_rfl) ?_ _;intro x1 _ Ex1;go_wp2;go_returns;exact ⟨rfl,exx⟩
theorem isL_says {w W:World} {d:Hd} {S:Hp.Hs} {choice:Int} {l:List Int} {b:Bool} {bx by':Nat} (h:HAt w d S) (hx:w.cell? ⟨bx,0,none⟩=some (.pointer (some ⟨d.hb,0,none⟩))) (hy:w.cell? ⟨by',0,none⟩=some (.int .i64 choice)) (hc1 : -1 ≤ choice) (hc2:choice ≤ 1000000)
    (hl:S.laters choice l=some b) (hW:Ext w W):SaysAll W 158 #[] #[.pointer (some ⟨bx,0,none⟩),.pointer (some ⟨by',0,none⟩)] l (isL S choice):=by
  intro j x hjx hall W' hW';obtain ⟨a,t,rfl,ht,h1,h2⟩:=(laters_spec hl).2 j x hjx hall;have E:=hW.trans hW';have:=checkNode1_any (h.ext E) ((E.cell (cell_lt hx) 0).trans hx) ((E.cell (cell_lt hy) 0).trans hy) hc1 hc2 ht h1 h2
  simpa using this
theorem has_says {w:World} {d:Hd} {S:Hp.Hs} {l:List Int} (h:HAt w d S) (hwf:∀ x ∈ l,-9223372036854775808 ≤ x ∧ x ≤ 9223372036854775807):SaysAll w 128 #[.pointer (some ⟨d.hb,0,none⟩)] #[] l S.has:=by
 intro j x hjx _ W hW
 have hb:=hwf x (List.mem_of_getElem? hjx)
 have:=isTaken_any (h.ext hW) (x:=x) rfl hb.1 hb.2
 simpa using this
theorem sizes_le {w:World} {d:Hd} {S:Hp.Hs} (h:HAt w d S) {i:Nat} {n:Int} (hn:Hp.rd S.sizes i=some n):1 ≤ n ∧ n ≤ 12:=h.pos n (List.mem_of_getElem? hn)
set_option maxHeartbeats 4000000 in
theorem checkNode_range {w:World} {d:Hd} {S:Hp.Hs} {choice:Int} (p:Value) (h:HAt w d S) (hc1 : -9223372036854775808 ≤ choice) (hc2:choice ≤ 9223372036854775807) (hr:Hp.within 0 (S.sizes.length-1) choice=false) :
    Calls Tryz.prog 108 #[.pointer (some ⟨d.hb,0,none⟩),.int .i64 choice,p] w fun e w'=>e = .returned (.int .i64 3) ∧ Ext w w':=by
  have hle:=h.sizes.le;have hcap:=h.sizes.cap;have H:=Lib.hid h;have HR:=Lib.hid hr;clear h hr;have e1:IntKind.i64.wrap ((S.sizes.length:Int)-1)=(S.sizes.length:Int)-1:=IntWalk.i64_in _ (by omega);go_enter Tryz.func108,Tryz.ntmps108;go_upto_region 4 with (go_at_call 72;refine (isMade_yes (H.out.ext (exx))).mono ?_;rintro e w1 ⟨rfl,hb1⟩;obtain ⟨hc1,hf1,hs1⟩:=hb1.cells;have hz1_0:w.heap.size < w1.heap.size:=(by have h:=hb1.le;(try simp at h);omega);have hc1_0:=hb1.cell (b:=w.heap.size) (by first | omega | (simp;done) | (simp;omega));have hf1_0:=hb1.frozen (b:=w.heap.size) (by first | omega | (simp;done) | (simp;omega));have hz1_1:w.heap.size+1 < w1.heap.size:=(by have h:=hb1.le;(try simp at h);omega);have hc1_1:=hb1.cell (b:=w.heap.size+1) (by first | omega | (simp;done) | (simp;omega));have hf1_1:=hb1.frozen (b:=w.heap.size+1) (by first | omega | (simp;done) | (simp;omega)))
  have N1:=Lib.hid (H.out.ext (exx:Ext w w1));have c0:=N1.out.c0;have z0:=N1.out.lt;have ca:w1.cell? ⟨w.heap.size,0,none⟩=some (.pointer (some ⟨d.hb,0,none⟩)):=by rw [hc1_0];go_simp
  have cb:w1.cell? ⟨w.heap.size+1,0,none⟩=some (.int .i64 choice):=by rw [hc1_1];go_simp
  have PR7:=Lib.hid (fun (ww:World) (hSw:Ext w1 ww)=>And.intro ((hSw.cell z0 0).trans c0) (And.intro ((hSw.cell hz1_0 0).trans ca) ((hSw.cell hz1_1 0).trans cb)));refine wp_region_seq (S:=fun W=>Ext w1 W) (R:=Ext) (by kernel_rfl) Ext.refl ?_ ?_
  · exact exx
  refine' tkL 0 rfl ?h0_99 ?_
  case h0_99=>(intro w q;obtain ⟨c0',ca',cb'⟩:=PR7.out w q;go_simp;try with_reducible rfl)
  refine layy ?_;refine' tkL 1 rfl ?h1_100 ?_
  case h1_100=>(intro w q;obtain ⟨c0',ca',cb'⟩:=PR7.out w q;go_simp;try with_reducible rfl)
  refine layy ?_;refine' tkL 2 rfl ?h2_101 ?_
  case h2_101=>(intro w q;obtain ⟨c0',ca',cb'⟩:=PR7.out w q;go_simp;try with_reducible rfl)
  refine layy ?_;refine' tkL 3 rfl ?h3_102 ?_
  case h3_102=>(intro w q;obtain ⟨c0',ca',cb'⟩:=PR7.out w q;go_simp;try with_reducible rfl)
  refine layy ?_;refine' tkL 4 rfl ?h4_103 ?_
  case h4_103=>(intro w q;obtain ⟨c0',ca',cb'⟩:=PR7.out w q;go_simp;try with_reducible rfl)
  refine layy ?_;refine' tkL 5 rfl ?h5_104 ?_
  case h5_104=>(intro w q;obtain ⟨c0',ca',cb'⟩:=PR7.out w q;go_simp;try with_reducible rfl)
  refine layy ?_;refine' tkL 6 rfl ?h6_105 ?_
  case h6_105=>(intro w q;obtain ⟨c0',ca',cb'⟩:=PR7.out w q;go_simp;try with_reducible rfl)
  refine layy ?_;refine' tkL 7 rfl ?h7_106 ?_
  case h7_106=>(intro w q;obtain ⟨c0',ca',cb'⟩:=PR7.out w q;go_simp;try with_reducible rfl)
  refine layy ?_;refine' tkR 8 (v:=.bool false) rfl (Or.inr ⟨by rfl,105,_, ?hx8_107, ?hy8_107⟩) ?rest8_107
  case hx8_107=>(intro w hSw;go_simp;try with_reducible rfl)
  case hy8_107=>exact fun w hE=>((HR.out ▸ within_any 0 ((S.sizes.length:Int)-1) choice _)).mono (fun _ _ h=>⟨h.1,h.2,Ext.trans hE h.2⟩)
  refine layy ?_;refine' tkL 9 rfl ?h9_108 ?_
  case h9_108=>(intro w q;obtain ⟨c0',ca',cb'⟩:=PR7.out w q;go_simp;try with_reducible rfl)
  refine layy ?_;refine' tkL 10 rfl ?h10_109 ?_
  case h10_109=>(intro w q;obtain ⟨c0',ca',cb'⟩:=PR7.out w q;go_simp;try with_reducible rfl)
  refine layy ?_;refine wpAnyR_done (by kernel_rfl) ?_ _;intro x1 _ Ex1
  go_wp2_with fail
  go_returns;exact ⟨rfl,exx⟩
theorem within_nat {n:Nat} {c:Int} (h:Hp.within 0 ((n:Int)-1) c=true):∃ i:Nat,c=i ∧ i < n:=by
 unfold Hp.within at h
 simp only [Bool.and_eq_true,decide_eq_true_eq] at h
 exact ⟨c.toNat,by omega,by omega⟩
set_option maxHeartbeats 8000000 in
theorem checkNode_any {w:World} {d:Hd} {S:Hp.Hs} {choice e0:Int} {p:Option Addr} {c:Nat} {l:List Int} (h:HAt w d S) (hs:SliceAt w p c l) (hc1 : -9223372036854775808 ≤ choice) (hc2:choice ≤ 9223372036854775807) (hr:S.checkNode choice l=some e0) :
    Calls Tryz.prog 108 #[.pointer (some ⟨d.hb,0,none⟩),.int .i64 choice,.slice p l.length c] w fun e w'=>e = .returned (.int .i64 e0) ∧ Ext w w':=by
  unfold Hp.Hs.checkNode at hr
  cases hw:Hp.within 0 ((S.sizes.length:Int)-1) choice with
  | false=>
   rw [if_pos hw] at hr
   cases hr
   exact checkNode_range _ h hc1 hc2 hw
  | true=>
   rw [if_neg (by rw [hw];simp)] at hr;obtain ⟨i,rfl,hi⟩:=within_nat hw;simp only [Option.bind_eq_bind,Option.bind_eq_some_iff,Int.toNat_natCast] at hr;obtain ⟨n,hn,hr⟩:=hr;have hle:=h.sizes.le;have hcap:=h.sizes.cap;have hle':=hs.le;have sm:=h.few;have hcap':=hs.cap;have hsz:=sizes_le h hn;obtain ⟨b,o,hsp,hbl,hcell⟩:=h.sizes.cells (by omega);have gi:=hcell i n hn;have HSP:=Lib.hid hsp;have H:=Lib.hid h;have HS:=Lib.hid hs;have HW:=Lib.hid hw;have HR:=Lib.hid hr;clear h hs hw hr hn hcell hsp hc1 hc2;have e1:IntKind.i64.wrap ((S.sizes.length:Int)-1)=(S.sizes.length:Int)-1:=IntWalk.i64_in _ (by omega);have i1:(0:Int) ≤ (i:Int):=by omega
   have i2:(i:Int) < (S.sizes.length:Int):=by omega
   go_enter Tryz.func108,Tryz.ntmps108;go_upto_region 4 with (go_at_call 72;refine (isMade_yes (H.out.ext (exx))).mono ?_;rintro e w1 ⟨rfl,hb1⟩;obtain ⟨hc1,hf1,hs1⟩:=hb1.cells;have hz1_0:w.heap.size < w1.heap.size:=(by have h:=hb1.le;(try simp at h);omega);have hc1_0:=hb1.cell (b:=w.heap.size) (by first | omega | (simp;done) | (simp;omega));have hf1_0:=hb1.frozen (b:=w.heap.size) (by first | omega | (simp;done) | (simp;omega));have hz1_1:w.heap.size+1 < w1.heap.size:=(by have h:=hb1.le;(try simp at h);omega);have hc1_1:=hb1.cell (b:=w.heap.size+1) (by first | omega | (simp;done) | (simp;omega));have hf1_1:=hb1.frozen (b:=w.heap.size+1) (by first | omega | (simp;done) | (simp;omega)))
   have E1:Ext w w1:=exx;have N1:=Lib.hid (H.out.ext E1);have c0:=N1.out.c0;rw [HSP.out] at c0;have z0:=N1.out.lt;have ca:w1.cell? ⟨w.heap.size,0,none⟩=some (.pointer (some ⟨d.hb,0,none⟩)):=by rw [hc1_0];go_simp
   have cb:w1.cell? ⟨w.heap.size+1,0,none⟩=some (.int .i64 i):=by rw [hc1_1];go_simp
   have zb:b < w1.heap.size:=Nat.lt_of_lt_of_le hbl E1.le;have gi':=(E1.cell hbl (o+i)).trans gi;have PR8:=Lib.hid (fun (ww:World) (hSw:Ext w1 ww)=>And.intro ((hSw.cell z0 0).trans c0) (And.intro ((hSw.cell hz1_0 0).trans ca) ((hSw.cell hz1_1 0).trans cb)));refine wp_region_seq (S:=fun W=>Ext w1 W) (R:=Ext) (by kernel_rfl) Ext.refl ?_ ?_
   · exact exx
   refine' tkL 0 rfl ?h0_110 ?_
   case h0_110=>(intro w q;obtain ⟨c0',ca',cb'⟩:=PR8.out w q;go_simp;try with_reducible rfl)
   refine layy ?_;refine' tkL 1 rfl ?h1_111 ?_
   case h1_111=>(intro w q;obtain ⟨c0',ca',cb'⟩:=PR8.out w q;go_simp;try with_reducible rfl)
   refine layy ?_;refine' tkL 2 rfl ?h2_112 ?_
   case h2_112=>(intro w q;obtain ⟨c0',ca',cb'⟩:=PR8.out w q;go_simp;try with_reducible rfl)
   refine layy ?_;refine' tkL 3 rfl ?h3_113 ?_
   case h3_113=>(intro w q;obtain ⟨c0',ca',cb'⟩:=PR8.out w q;go_simp;try with_reducible rfl)
   refine layy ?_;refine' tkL 4 rfl ?h4_114 ?_
   case h4_114=>(intro w q;obtain ⟨c0',ca',cb'⟩:=PR8.out w q;go_simp;try with_reducible rfl)
   refine layy ?_;refine' tkL 5 rfl ?h5_115 ?_
   case h5_115=>(intro w q;obtain ⟨c0',ca',cb'⟩:=PR8.out w q;go_simp;try with_reducible rfl)
   refine layy ?_;refine' tkL 6 rfl ?h6_116 ?_
   case h6_116=>(intro w q;obtain ⟨c0',ca',cb'⟩:=PR8.out w q;go_simp;try with_reducible rfl)
   refine layy ?_;refine' tkL 7 rfl ?h7_117 ?_
   case h7_117=>(intro w q;obtain ⟨c0',ca',cb'⟩:=PR8.out w q;go_simp;try with_reducible rfl)
   refine layy ?_;refine' tkR 8 (v:=.bool true) rfl (Or.inr ⟨by rfl,105,_, ?hx8_118, ?hy8_118⟩) ?rest8_118
   case hx8_118=>(intro w hSw;go_simp;try with_reducible rfl)
   case hy8_118=>exact fun w hE=>((HW.out ▸ within_any 0 ((S.sizes.length:Int)-1) i _)).mono (fun _ _ h=>⟨h.1,h.2,Ext.trans hE h.2⟩)
   refine layy ?_;refine' tkL 9 rfl ?h9_119 ?_
   case h9_119=>(intro w q;obtain ⟨c0',ca',cb'⟩:=PR8.out w q;go_simp;try with_reducible rfl)
   refine layy ?_;refine' tkL 10 rfl ?h10_120 ?_
   case h10_120=>(intro w q;obtain ⟨c0',ca',cb'⟩:=PR8.out w q;go_simp;try with_reducible rfl)
   refine layy ?_;refine wpAnyR_done (by kernel_rfl) ?_ _;intro x1 _ Ex1;go_upto_region 6 with (fail)
   refine wp_region_seq (S:=fun W=>Ext x1 W) (R:=Ext) (by kernel_rfl) Ext.refl ?_ ?_
   · exact exx
   refine' tkL 0 rfl ?h0_121 ?_
   case h0_121=>(intro w hSw;(have hSw':=Ext.trans Ex1 hSw;have c0':=(hSw'.cell z0 0).trans c0;have ca':=(hSw'.cell hz1_0 0).trans ca;have cb':=(hSw'.cell hz1_1 0).trans cb;have gi'':=(hSw'.cell zb (o+i)).trans gi');go_simp;try with_reducible rfl)
   refine layy ?_;refine' tkL 1 rfl ?h1_122 ?_
   case h1_122=>(intro w hSw;(have hSw':=Ext.trans Ex1 hSw;have c0':=(hSw'.cell z0 0).trans c0;have ca':=(hSw'.cell hz1_0 0).trans ca;have cb':=(hSw'.cell hz1_1 0).trans cb;have gi'':=(hSw'.cell zb (o+i)).trans gi');go_simp;try with_reducible rfl)
   refine layy ?_;refine' tkL 2 rfl ?h2_123 ?_
   case h2_123=>(intro w hSw;(have hSw':=Ext.trans Ex1 hSw;have c0':=(hSw'.cell z0 0).trans c0;have ca':=(hSw'.cell hz1_0 0).trans ca;have cb':=(hSw'.cell hz1_1 0).trans cb;have gi'':=(hSw'.cell zb (o+i)).trans gi');go_simp;try with_reducible rfl)
   refine layy ?_;refine' tkL 3 rfl ?h3_124 ?_
   case h3_124=>(intro w hSw;(have hSw':=Ext.trans Ex1 hSw;have c0':=(hSw'.cell z0 0).trans c0;have ca':=(hSw'.cell hz1_0 0).trans ca;have cb':=(hSw'.cell hz1_1 0).trans cb;have gi'':=(hSw'.cell zb (o+i)).trans gi');go_simp;try with_reducible rfl)
   refine layy ?_;refine' tkL 4 rfl ?h4_125 ?_
   case h4_125=>(intro w hSw;(have hSw':=Ext.trans Ex1 hSw;have c0':=(hSw'.cell z0 0).trans c0;have ca':=(hSw'.cell hz1_0 0).trans ca;have cb':=(hSw'.cell hz1_1 0).trans cb;have gi'':=(hSw'.cell zb (o+i)).trans gi');go_simp;try with_reducible rfl)
   refine layy ?_;refine' tkL 5 rfl ?h5_126 ?_
   case h5_126=>(intro w hSw;(have hSw':=Ext.trans Ex1 hSw;have c0':=(hSw'.cell z0 0).trans c0;have ca':=(hSw'.cell hz1_0 0).trans ca;have cb':=(hSw'.cell hz1_1 0).trans cb;have gi'':=(hSw'.cell zb (o+i)).trans gi');go_simp;try with_reducible rfl)
   refine layy ?_;refine' tkL 6 rfl ?h6_127 ?_
   case h6_127=>(intro w hSw;(have hSw':=Ext.trans Ex1 hSw;have c0':=(hSw'.cell z0 0).trans c0;have ca':=(hSw'.cell hz1_0 0).trans ca;have cb':=(hSw'.cell hz1_1 0).trans cb;have gi'':=(hSw'.cell zb (o+i)).trans gi');go_simp;try with_reducible rfl)
   refine layy ?_;refine' tkL 7 rfl ?h7_128 ?_
   case h7_128=>(intro w hSw;(have hSw':=Ext.trans Ex1 hSw;have c0':=(hSw'.cell z0 0).trans c0;have ca':=(hSw'.cell hz1_0 0).trans ca;have cb':=(hSw'.cell hz1_1 0).trans cb;have gi'':=(hSw'.cell zb (o+i)).trans gi');go_simp;try with_reducible rfl)
   refine layy ?_;refine' tkL 8 rfl ?h8_129 ?_
   case h8_129=>(intro w hSw;(have hSw':=Ext.trans Ex1 hSw;have c0':=(hSw'.cell z0 0).trans c0;have ca':=(hSw'.cell hz1_0 0).trans ca;have cb':=(hSw'.cell hz1_1 0).trans cb;have gi'':=(hSw'.cell zb (o+i)).trans gi');go_simp;try with_reducible rfl)
   refine layy ?_;refine' tkL 9 rfl ?h9_130 ?_
   case h9_130=>(intro w hSw;(have hSw':=Ext.trans Ex1 hSw;have c0':=(hSw'.cell z0 0).trans c0;have ca':=(hSw'.cell hz1_0 0).trans ca;have cb':=(hSw'.cell hz1_1 0).trans cb;have gi'':=(hSw'.cell zb (o+i)).trans gi');go_simp;try with_reducible rfl)
   refine layy ?_;refine' tkL 10 rfl ?h10_131 ?_
   case h10_131=>(intro w hSw;(have hSw':=Ext.trans Ex1 hSw;have c0':=(hSw'.cell z0 0).trans c0;have ca':=(hSw'.cell hz1_0 0).trans ca;have cb':=(hSw'.cell hz1_1 0).trans cb;have gi'':=(hSw'.cell zb (o+i)).trans gi');go_simp;try with_reducible rfl)
   refine layy ?_;refine' tkL 11 rfl ?h11_132 ?_
   case h11_132=>(intro w hSw;(have hSw':=Ext.trans Ex1 hSw;have c0':=(hSw'.cell z0 0).trans c0;have ca':=(hSw'.cell hz1_0 0).trans ca;have cb':=(hSw'.cell hz1_1 0).trans cb;have gi'':=(hSw'.cell zb (o+i)).trans gi');go_simp;try with_reducible rfl)
   refine layy ?_;refine wpAnyR_done (by kernel_rfl) ?_ _;intro x2 _ Ex2;have E2:=E1.trans (Ex1.trans Ex2);have E12:=Ex1.trans Ex2;have hr:=HR.out
   by_cases hlen:(l.length:Int)=n
   case neg=>
    rw [if_pos hlen] at hr
    cases hr
    have t0:((l.length:Int) != n)=true:=by simpa using hlen
    clear hlen
    go_wp2_with fail
    go_returns;exact ⟨rfl,E2⟩
   case pos=>
    rw [if_neg (by rw [hlen];simp)] at hr;have t0:((l.length:Int) != n)=false:=by simpa using hlen
    have ca2:=(E12.cell hz1_0 0).trans ca;have cb2:=(E12.cell hz1_1 0).trans cb;have N2:=Lib.hid (H.out.ext E2);have S2:=Lib.hid (HS.out.ext E2)
    cases hh:l.all S.has with
    | false=>
     rw [if_pos hh] at hr
     cases hr
     have HH:=Lib.hid hh;clear hlen hh
     go_wp2_with (go_at_call 124;refine (every_any (enters_of Tryz.func128 (by kernel_rfl) rfl) S2.out (has_says N2.out S2.out.wf) HH.out).mono ?_;rintro e w3 ⟨rfl,hb3⟩;obtain ⟨hc3,hf3,hs3⟩:=hb3.cells)
     go_returns;exact ⟨rfl,E2.trans hb3⟩
    | true=>
     rw [if_neg (by rw [hh];simp)] at hr;simp only [Option.bind_eq_some_iff] at hr;obtain ⟨lb,hlb,hr⟩:=hr;have HH:=Lib.hid hh;have LB:=Lib.hid hlb;have LA:=Lib.hid (laters_spec hlb).1;clear hlen hh hlb;have CA2:=Lib.hid ca2;have CB2:=Lib.hid cb2
     cases lb with
     | false=>
      rw [if_pos rfl] at hr
      cases hr
      go_upto_region 10 with (go_at_call 124;refine (every_any (enters_of Tryz.func128 (by kernel_rfl) rfl) S2.out (has_says N2.out S2.out.wf) HH.out).mono ?_;rintro e w3 ⟨rfl,hb3⟩;obtain ⟨hc3,hf3,hs3⟩:=hb3.cells)
      go_wp2_with (go_at_call 124;refine (every_any (enters_of Tryz.func158 (by kernel_rfl) rfl) (S2.out.ext hb3) (isL_says N2.out CA2.out CB2.out (by omega) (by omega) LB.out hb3) LA.out).mono ?_;rintro e w4 ⟨rfl,hb4⟩;obtain ⟨hc4,hf4,hs4⟩:=hb4.cells)
      go_returns;exact ⟨rfl,E2.trans (hb3.trans hb4)⟩
     | true=>
      rw [if_neg (by simp)] at hr
      cases hr
      go_upto_region 10 with (go_at_call 124;refine (every_any (enters_of Tryz.func128 (by kernel_rfl) rfl) S2.out (has_says N2.out S2.out.wf) HH.out).mono ?_;rintro e w3 ⟨rfl,hb3⟩;obtain ⟨hc3,hf3,hs3⟩:=hb3.cells)
      go_wp2_with (go_at_call 124;refine (every_any (enters_of Tryz.func158 (by kernel_rfl) rfl) (S2.out.ext hb3) (isL_says N2.out CA2.out CB2.out (by omega) (by omega) LB.out hb3) LA.out).mono ?_;rintro e w4 ⟨rfl,hb4⟩;obtain ⟨hc4,hf4,hs4⟩:=hb4.cells)
      go_returns;exact ⟨rfl,E2.trans (hb3.trans hb4)⟩
theorem full_eq (a:Nat) (S:Hp.Hs):Hp.Hs.full (a,S)=((a:Int),err8 a,S):=by
 unfold Hp.Hs.full err8
 by_cases h:a=0 <;> simp [h]
def Added (d:Hd) (w:World) (r:Int × Int × Hp.Hs) (e:Ending) (w':World):Prop:=e = .returned (.tuple #[.int .i64 r.1,.int .i64 r.2.1]) ∧ Now w w' d r.2.2
theorem SliceAt.one (w:World) (n:Int) (h1 : -9223372036854775808 ≤ n) (h2:n ≤ 9223372036854775807) (t:TypeId):SliceAt (w.alloc (.cells #[.int .i64 n] t)) (some ⟨w.heap.size,0,none⟩) 1 [n]:=by
 refine ⟨by simp,by omega,by simp;omega,fun _=>⟨w.heap.size,0,rfl,by simp,fun j x hx=>?_⟩⟩
 cases j with
 | zero=>
  have:n=x:=by simpa [Hp.rd] using hx
  subst this;have:=World.cell?_alloc_mark w #[.int .i64 n] t (0,0) 0;rw [this];rfl
 | succ j=>simp [Hp.rd] at hx
theorem HAt.own_lt {w:World} {d:Hd} {S:Hp.Hs} (h:HAt w d S):∀ b ∈ d.own,b < w.heap.size:=by
 intro b hb
 simp [Hd.own] at hb
 rcases hb with rfl | rfl | rfl
 · exact h.lt
 · exact h.words.lt
 · exact h.map.lt
set_option maxRecDepth 100000 in
set_option maxHeartbeats 4000000 in
theorem End_any {w:World} {d:Hd} {S:Hp.Hs} {f:Nat} {n:Int} {r:Int × Int × Hp.Hs} (h:HAt w d S) (hf:f < 256) (hn1 : -9223372036854775808 ≤ n) (hn2:n ≤ 9223372036854775807) (hr:S.end' f n=some r) :
    Calls Tryz.prog 43 #[.pointer (some ⟨d.hb,0,none⟩),.agg #[.int .u8 f,.int .i64 n]] w (Added d w r):=by
  have H:=Lib.hid (Now.refl h);clear h;unfold Hp.Hs.end' at hr
  by_cases h1:(f:Int) > 4
  · rw [if_pos (Or.inl h1)] at hr
    cases hr
    go_enter Tryz.func43,Tryz.ntmps43
    go_wp2_with (go_at_call 72;refine (isMade_yes (H.out.ext (exx)).toHAt).mono ?_;rintro e w1 ⟨rfl,hb1⟩;obtain ⟨hc1,hf1,hs1⟩:=hb1.cells;have hz1_0:w.heap.size < w1.heap.size:=(by have h:=hb1.le;(try simp at h);omega);have hc1_0:=hb1.cell (b:=w.heap.size) (by first | omega | (simp;done) | (simp;omega));have hf1_0:=hb1.frozen (b:=w.heap.size) (by first | omega | (simp;done) | (simp;omega)))
    go_ret2
    exact ⟨rfl,H.out.ext (exx)⟩
  · by_cases h2:(f:Int) > 0 ∧ n ≠ 0
    · rw [if_pos (Or.inr (Or.inl h2))] at hr
      cases hr
      have t0:(n != 0)=true:=by simpa using h2.2
      have h3:=h2.1;clear h2;go_enter Tryz.func43,Tryz.ntmps43
      go_wp2_with (go_at_call 72;refine (isMade_yes (H.out.ext (exx)).toHAt).mono ?_;rintro e w1 ⟨rfl,hb1⟩;obtain ⟨hc1,hf1,hs1⟩:=hb1.cells;have hz1_0:w.heap.size < w1.heap.size:=(by have h:=hb1.le;(try simp at h);omega);have hc1_0:=hb1.cell (b:=w.heap.size) (by first | omega | (simp;done) | (simp;omega));have hf1_0:=hb1.frozen (b:=w.heap.size) (by first | omega | (simp;done) | (simp;omega)))
      go_ret2
      exact ⟨rfl,H.out.ext (exx)⟩
    · cases hw:Hp.within (-9999) 9999 n with
      | false=>
       rw [if_pos (Or.inr (Or.inr hw))] at hr
       cases hr
       by_cases hf0:f=0
       · subst hf0;clear h1 h2;have HW:=Lib.hid hw;clear hw;go_enter Tryz.func43,Tryz.ntmps43
         go_wp2_with (first
          | (go_at_call 72;refine (isMade_yes (H.out.ext (exx)).toHAt).mono ?_;rintro e w1 ⟨rfl,hb1⟩;obtain ⟨hc1,hf1,hs1⟩:=hb1.cells;have hz1_0:w.heap.size < w1.heap.size:=(by have h:=hb1.le;(try simp at h);omega);have hc1_0:=hb1.cell (b:=w.heap.size) (by first | omega | (simp;done) | (simp;omega));have hf1_0:=hb1.frozen (b:=w.heap.size) (by first | omega | (simp;done) | (simp;omega)))
          | (go_at_call 105;refine ((HW.out ▸ within_any (-9999) 9999 n _)).mono ?_;rintro e w2 ⟨rfl,hb2⟩;obtain ⟨hc2,hf2,hs2⟩:=hb2.cells))
         go_ret2
         exact ⟨rfl,H.out.ext (exx)⟩
       · have:n=0:=by
           apply Classical.byContradiction;intro hne;exact h2 ⟨by omega,hne⟩
         subst this;simp [Hp.within] at hw
      | true=>
       rw [if_neg (by rw [hw];simp;exact ⟨by omega,fun hx=>by
        apply Classical.byContradiction;intro hne;exact h2 ⟨by omega,hne⟩⟩)] at hr
       simp only [Option.bind_eq_bind,Option.bind_eq_some_iff,Option.pure_def,Option.some.injEq] at hr;obtain ⟨⟨a,S'⟩,ha,rfl⟩:=hr;rw [full_eq];have HA:=Lib.hid ha;have HW:=Lib.hid hw;clear ha hw;have key:∀ w2,Ext w w2 → Calls Tryz.prog 107 #[.pointer (some ⟨d.hb,0,none⟩),.int .i64 (20+f),.slice (some ⟨w2.heap.size,0,none⟩) 1 1] (w2.alloc (.cells #[.int .i64 n] 3)) (fun e w'=>e = .returned (.int .i64 a) ∧ Now w w' d S'):=by
        intro w2 E;have E2:Ext w (w2.alloc (.cells #[.int .i64 n] 3)):=E.alloc _;refine (add_any (H.out.ext E2).toHAt (SliceAt.one w2 n hn1 hn2 3) (by simp) (fun b o e=>?_) HA.out).mono ?_
        · cases e
          intro hm;have:=H.out.toHAt.own_lt _ hm;have:=E.le;omega
        · rintro e w' ⟨rfl,h1,h2⟩;exact ⟨rfl,h1,(But.ofExt E2).trans h2⟩
       have KEY:=Lib.hid key;clear key
       by_cases hf0:f=0
       · subst hf0;clear h1 h2;go_enter Tryz.func43,Tryz.ntmps43
         go_wp2_with (first
          | (go_at_call 72;refine (isMade_yes (H.out.ext (exx)).toHAt).mono ?_;rintro e w1 ⟨rfl,hb1⟩;obtain ⟨hc1,hf1,hs1⟩:=hb1.cells;have hz1_0:w.heap.size < w1.heap.size:=(by have h:=hb1.le;(try simp at h);omega);have hc1_0:=hb1.cell (b:=w.heap.size) (by first | omega | (simp;done) | (simp;omega));have hf1_0:=hb1.frozen (b:=w.heap.size) (by first | omega | (simp;done) | (simp;omega)))
          | (go_at_call 105;refine ((HW.out ▸ within_any (-9999) 9999 n _)).mono ?_;rintro e w2 ⟨rfl,hb2⟩;obtain ⟨hc2,hf2,hs2⟩:=hb2.cells)
          | (go_at_call 107;refine (KEY.out _ (exx)).mono ?_;rintro e w3 ⟨rfl,N3⟩)
          | (go_at_call 106;refine (full_any a _).mono ?_;rintro e w4 ⟨rfl,hb4⟩;obtain ⟨hc4,hf4,hs4⟩:=hb4.cells))
         go_ret2
         exact ⟨rfl,N3.ext hb4⟩
       · have hn0:n=0:=by
           apply Classical.byContradiction;intro hne;exact h2 ⟨by omega,hne⟩
         subst hn0;have q1:0 < (f:Int):=by omega
         have q2:(f:Int) ≤ 4:=by omega
         clear h1 h2 hf0 hn1 hn2 HA;go_enter Tryz.func43,Tryz.ntmps43
         go_wp2_with (first
          | (go_at_call 72;refine (isMade_yes (H.out.ext (exx)).toHAt).mono ?_;rintro e w1 ⟨rfl,hb1⟩;obtain ⟨hc1,hf1,hs1⟩:=hb1.cells;have hz1_0:w.heap.size < w1.heap.size:=(by have h:=hb1.le;(try simp at h);omega);have hc1_0:=hb1.cell (b:=w.heap.size) (by first | omega | (simp;done) | (simp;omega));have hf1_0:=hb1.frozen (b:=w.heap.size) (by first | omega | (simp;done) | (simp;omega)))
          | (go_at_call 105;refine ((HW.out ▸ within_any (-9999) 9999 0 _)).mono ?_;rintro e w2 ⟨rfl,hb2⟩;obtain ⟨hc2,hf2,hs2⟩:=hb2.cells)
          | (go_at_call 107;refine (KEY.out _ (exx)).mono ?_;rintro e w3 ⟨rfl,N3⟩)
          | (go_at_call 106;refine (full_any a _).mono ?_;rintro e w4 ⟨rfl,hb4⟩;obtain ⟨hc4,hf4,hs4⟩:=hb4.cells))
         go_ret2
         exact ⟨rfl,N3.ext hb4⟩
theorem check_zero {S:Hp.Hs} {choice:Int} {l:List Int} (h:S.checkNode choice l=some 0):∃ (i:Nat) (n:Int),choice=i ∧ i < S.sizes.length ∧ Hp.rd S.sizes i=some n ∧ (l.length:Int)=n:=by
 unfold Hp.Hs.checkNode at h
 split at h
 · cases h
 · rename_i hw;obtain ⟨i,rfl,hi⟩:=within_nat (by simpa using hw);simp only [Option.bind_eq_bind,Option.bind_eq_some_iff,Int.toNat_natCast] at h;obtain ⟨n,hn,h⟩:=h
   split at h
   · cases h
   · rename_i hl;exact ⟨i,n,rfl,hi,hn,by simpa using hl⟩
set_option maxRecDepth 100000 in
set_option maxHeartbeats 4000000 in
theorem Make_any {w:World} {d:Hd} {S:Hp.Hs} {choice:Int} {p:Option Addr} {c:Nat} {l:List Int} {r:Int × Int × Hp.Hs} (h:HAt w d S) (hs:SliceAt w p c l) (far:∀ b o,p=some ⟨b,o,none⟩ → b ∉ d.own)
    (hc1 : -9223372036854775808 ≤ choice) (hc2:choice ≤ 9223372036854775807) (hr:S.make choice l=some r) :
    Calls Tryz.prog 44 #[.pointer (some ⟨d.hb,0,none⟩),.int .i64 choice,.slice p l.length c] w (Added d w r):=by
  unfold Hp.Hs.make at hr;simp only [Option.bind_eq_bind,Option.bind_eq_some_iff] at hr;obtain ⟨e0,he,hr⟩:=hr;have H:=Lib.hid (Now.refl h);have HS:=Lib.hid hs;have HE:=Lib.hid he
  by_cases h0:e0=0
  case neg=>
   rw [if_pos h0] at hr
   cases hr
   have t0:(e0 != 0)=true:=by simpa using h0
   clear h hs he h0 far;go_enter Tryz.func44,Tryz.ntmps44
   go_wp2_with (go_at_call 108;refine (checkNode_any H.out.toHAt HS.out hc1 hc2 HE.out).mono ?_;rintro e w1 ⟨rfl,hb1⟩;obtain ⟨hc1,hf1,hs1⟩:=hb1.cells)
   go_ret2
   exact ⟨rfl,H.out.ext hb1⟩
  case pos=>
   subst h0;rw [if_neg (by simp)] at hr;obtain ⟨i,n,rfl,hi,hn,hl⟩:=check_zero he;have hsz:=sizes_le h hn;have h0l:0 < l.length:=by omega
   have hfew:=h.few;obtain ⟨y,hy⟩:=rd_get h0l;obtain ⟨b,o,hp,hb,hcell⟩:=hs.cells h0l;have g:=hcell 0 y hy;simp only [Nat.add_zero] at g;have hle:=hs.le;have hcap:=hs.cap;have FAR:=Lib.hid far;subst hp
   cases ha:Hp.Hs.alike l with
   | true=>
    rw [if_pos ha] at hr;simp only [Option.bind_eq_some_iff] at hr;obtain ⟨y',hy',hr⟩:=hr
    cases hr
    have:y'=y:=by
     cases l with
     | nil=>cases hy
     | cons a r=>
      have e1:a=y':=by simpa using hy'
      have e2:a=y:=by simpa [Hp.rd] using hy
      rw [← e1,e2]
    subst this;have HA:=Lib.hid ha;clear h hs he hy hy' far ha hn hl hcell;have L0:=Lib.hid h0l;have z:=Lib.hid hb;go_enter Tryz.func44,Tryz.ntmps44
    go_wp2_with (first
     | (go_at_call 108;refine (checkNode_any H.out.toHAt HS.out hc1 hc2 HE.out).mono ?_;rintro e w1 ⟨rfl,hb1⟩;obtain ⟨hc1,hf1,hs1⟩:=hb1.cells)
     | (go_at_call 109;refine (alike_any (HS.out.ext hb1) L0.out HA.out).mono ?_;rintro e w2 ⟨rfl,hb2⟩;obtain ⟨hc2,hf2,hs2⟩:=hb2.cells;have g2:=((hb1.trans hb2).cell z.out o).trans g))
    go_ret2
    exact ⟨rfl,(H.out.ext hb1).ext hb2⟩
   | false=>
    rw [if_neg (by rw [ha];simp)] at hr;simp only [Option.bind_eq_some_iff,Option.pure_def,Option.some.injEq] at hr;obtain ⟨⟨a,S'⟩,had,rfl⟩:=hr;rw [full_eq];have HA:=Lib.hid ha;have HAD:=Lib.hid had;have L0:=Lib.hid h0l;clear h hs he hy far ha hn hl hcell had g h0l;go_enter Tryz.func44,Tryz.ntmps44
    go_wp2_with (first
     | (go_at_call 108;refine (checkNode_any H.out.toHAt HS.out hc1 hc2 HE.out).mono ?_;rintro e w1 ⟨rfl,hb1⟩;obtain ⟨hc1,hf1,hs1⟩:=hb1.cells)
     | (go_at_call 109;refine (alike_any (HS.out.ext hb1) L0.out HA.out).mono ?_;rintro e w2 ⟨rfl,hb2⟩;obtain ⟨hc2,hf2,hs2⟩:=hb2.cells)
     | (go_at_call 107;refine (add_any ((H.out.ext hb1).ext hb2).toHAt ((HS.out.ext hb1).ext hb2) L0.out FAR.out HAD.out).mono ?_;rintro e w3 ⟨rfl,hA3,hB3⟩)
     | (go_at_call 106;refine (full_any a _).mono ?_;rintro e w4 ⟨rfl,hb4⟩;obtain ⟨hc4,hf4,hs4⟩:=hb4.cells))
    go_ret2
    exact ⟨rfl,(Now.mk hA3 ((But.ofExt (hb1.trans hb2)).trans hB3)).ext hb4⟩
set_option maxRecDepth 100000 in
set_option maxHeartbeats 4000000 in
theorem Find_any {w:World} {d:Hd} {S:Hp.Hs} {choice:Int} {p:Option Addr} {c:Nat} {l:List Int} {r:Int × Int} (h:HAt w d S) (hs:SliceAt w p c l) (far:∀ b o,p=some ⟨b,o,none⟩ → b ∉ d.own)
    (hc1 : -9223372036854775808 ≤ choice) (hc2:choice ≤ 9223372036854775807) (hr:S.find choice l=some r) :
    Calls Tryz.prog 45 #[.pointer (some ⟨d.hb,0,none⟩),.int .i64 choice,.slice p l.length c] w fun e w'=>e = .returned (.tuple #[.int .i64 r.1,.int .i64 r.2]) ∧ Ext w w':=by
  unfold Hp.Hs.find at hr;simp only [Option.bind_eq_bind,Option.bind_eq_some_iff] at hr;obtain ⟨e0,he,hr⟩:=hr;have H:=Lib.hid (Now.refl h);have HS:=Lib.hid hs;have HE:=Lib.hid he
  by_cases h0:e0=0
  case neg=>
   rw [if_pos h0] at hr
   cases hr
   have t0:(e0 != 0)=true:=by simpa using h0
   clear h hs he h0 far;go_enter Tryz.func45,Tryz.ntmps45
   go_wp2_with (go_at_call 108;refine (checkNode_any H.out.toHAt HS.out hc1 hc2 HE.out).mono ?_;rintro e w1 ⟨rfl,hb1⟩;obtain ⟨hc1,hf1,hs1⟩:=hb1.cells)
   go_ret2
   exact ⟨rfl,hb1⟩
  case pos=>
   subst h0;rw [if_neg (by simp)] at hr;obtain ⟨i,n,rfl,hi,hn,hl⟩:=check_zero he;have hsz:=sizes_le h hn;have h0l:0 < l.length:=by omega
   have hfew:=h.few;obtain ⟨y,hy⟩:=rd_get h0l;obtain ⟨b,o,hp,hb,hcell⟩:=hs.cells h0l;have g:=hcell 0 y hy;simp only [Nat.add_zero] at g;have hle:=hs.le;have hcap:=hs.cap;have FAR:=Lib.hid far;subst hp
   cases ha:Hp.Hs.alike l with
   | true=>
    rw [if_pos ha] at hr;simp only [Option.bind_eq_some_iff] at hr;obtain ⟨y',hy',hr⟩:=hr
    cases hr
    have:y'=y:=by
     cases l with
     | nil=>cases hy
     | cons a r=>
      have e1:a=y':=by simpa using hy'
      have e2:a=y:=by simpa [Hp.rd] using hy
      rw [← e1,e2]
    subst this;have HA:=Lib.hid ha;clear h hs he hy hy' far ha hn hl hcell;have L0:=Lib.hid h0l;have z:=Lib.hid hb;go_enter Tryz.func45,Tryz.ntmps45
    go_wp2_with (first
     | (go_at_call 108;refine (checkNode_any H.out.toHAt HS.out hc1 hc2 HE.out).mono ?_;rintro e w1 ⟨rfl,hb1⟩;obtain ⟨hc1,hf1,hs1⟩:=hb1.cells)
     | (go_at_call 109;refine (alike_any (HS.out.ext hb1) L0.out HA.out).mono ?_;rintro e w2 ⟨rfl,hb2⟩;obtain ⟨hc2,hf2,hs2⟩:=hb2.cells;have g2:=((hb1.trans hb2).cell z.out o).trans g))
    go_ret2
    exact ⟨rfl,hb1.trans hb2⟩
   | false=>
    rw [if_neg (by rw [ha];simp)] at hr;simp only [Option.bind_eq_some_iff] at hr;obtain ⟨a,hlk,hr⟩:=hr;have HA:=Lib.hid ha;have HLK:=Lib.hid hlk;have L0:=Lib.hid h0l;clear h hs he hy far ha hn hl hcell hlk g h0l
    by_cases ha0:a=0
    · subst ha0;rw [if_pos rfl] at hr
      cases hr
      go_enter Tryz.func45,Tryz.ntmps45
      go_wp2_with (first
       | (go_at_call 108;refine (checkNode_any H.out.toHAt HS.out hc1 hc2 HE.out).mono ?_;rintro e w1 ⟨rfl,hb1⟩;obtain ⟨hc1,hf1,hs1⟩:=hb1.cells)
       | (go_at_call 109;refine (alike_any (HS.out.ext hb1) L0.out HA.out).mono ?_;rintro e w2 ⟨rfl,hb2⟩;obtain ⟨hc2,hf2,hs2⟩:=hb2.cells)
       | (go_at_call 110;refine (look_any ((H.out.ext hb1).ext hb2).toHAt ((HS.out.ext hb1).ext hb2) HLK.out).mono ?_;rintro e w3 ⟨rfl,hb3⟩;obtain ⟨hc3,hf3,hs3⟩:=hb3.cells))
      go_ret2
      exact ⟨rfl,(hb1.trans hb2).trans hb3⟩
    · rw [if_neg ha0] at hr
      cases hr
      have t0:((a:Int) == 0)=false:=by simpa using ha0
      clear ha0;go_enter Tryz.func45,Tryz.ntmps45
      go_wp2_with (first
       | (go_at_call 108;refine (checkNode_any H.out.toHAt HS.out hc1 hc2 HE.out).mono ?_;rintro e w1 ⟨rfl,hb1⟩;obtain ⟨hc1,hf1,hs1⟩:=hb1.cells)
       | (go_at_call 109;refine (alike_any (HS.out.ext hb1) L0.out HA.out).mono ?_;rintro e w2 ⟨rfl,hb2⟩;obtain ⟨hc2,hf2,hs2⟩:=hb2.cells)
       | (go_at_call 110;refine (look_any ((H.out.ext hb1).ext hb2).toHAt ((HS.out.ext hb1).ext hb2) HLK.out).mono ?_;rintro e w3 ⟨rfl,hb3⟩;obtain ⟨hc3,hf3,hs3⟩:=hb3.cells))
      go_ret2
      exact ⟨rfl,(hb1.trans hb2).trans hb3⟩
def missing (n:Nat) (L:List Nat):Nat:=((List.range n).filter fun x=>!L.contains x).length
theorem missing_mono {n:Nat} {L L':List Nat} (h:∀ x ∈ L,x ∈ L'):missing n L' ≤ missing n L:=by
 unfold missing
 generalize List.range n=R
 induction R with
 | nil=>simp
 | cons a r ih=>
  simp only [List.filter_cons]
  cases h1:L'.contains a <;> cases h2:L.contains a <;> simp only [Bool.not_true,Bool.not_false,Bool.false_eq_true,if_false,if_true,List.length_cons]
  · omega
  · exfalso;have h3:=h a (by simpa using h2);have h4:L'.contains a=true:=by simpa using h3
    rw [h1] at h4
    cases h4
  · omega
  · exact ih
theorem missing_ins {n a:Nat} {L:List Nat} (ha:a < n) (hL:a ∉ L):missing n (Hp.Hs.insert a L) < missing n L:=by
 unfold missing
 have e:(List.range n).filter (fun x=>!(Hp.Hs.insert a L).contains x)=((List.range n).filter fun x=>!L.contains x).filter (fun x=>x != a):=by
  rw [List.filter_filter];apply List.filter_congr;intro x _
  by_cases hx:x=a
  · subst hx;simp [mem_ins]
  · simp [mem_ins,hx]
 rw [e]
 have hm:a ∈ (List.range n).filter fun x=>!L.contains x:=by simp [ha,hL]
 generalize (List.range n).filter (fun x=>!L.contains x)=R at hm
 induction R with
 | nil=>cases hm
 | cons b r ih=>
  simp only [List.filter_cons]
  rcases List.mem_cons.1 hm with rfl | h
  · simp only [bne_self_eq_false,Bool.false_eq_true,if_false,List.length_cons];have:=List.length_filter_le (fun x=>x != a) r;omega
  · split
    · simp only [List.length_cons];have:=ih h;omega
    · have:=List.length_filter_le (fun x=>x != a) r;simp only [List.length_cons];omega
theorem sorted_len {n:Nat} {L:List Nat} (hs:L.Pairwise (· < ·)) (hb:∀ a ∈ L,a < n):L.length ≤ n:=by
 have key:∀ (m:Nat) (T:List Nat),T.Pairwise (· < ·) → (∀ a ∈ T,m ≤ a ∧ a < n) → T.length+m ≤ n ∨ T=[]:=by
  intro m T
  induction T generalizing m with
  | nil=>intro _ _;exact Or.inr rfl
  | cons a r ih=>
   intro hp hr;obtain ⟨h1,h2⟩:=List.pairwise_cons.1 hp;have ha:=hr a (by simp);left
   rcases ih (a+1) h2 (fun b hb=>⟨h1 b hb,(hr b (by simp [hb])).2⟩) with h | h
   · simp;omega
   · subst h;simp;omega
 rcases key 0 L hs (fun a ha=>⟨Nat.zero_le _,hb a ha⟩) with h | h
 · omega
 · subst h;simp
theorem Hp.Hs.Kids.lt {S:Hp.Hs} {a:Nat} (h:S.Kids a):a < S.words.length:=by
 obtain ⟨ks,l,h1,_⟩:=h
 obtain ⟨t,ht,_⟩:=kids_some h1
 exact rd_lt ht
structure Mk (w:World) (d:Hd) (S:Hp.Hs) (b1 b2 b3 gl:Nat) (L:List Nat):Prop extends HAt w d S where
 k1:w.cell? ⟨b1,0,none⟩=some (.map (some gl))
 k2:w.cell? ⟨b2,0,none⟩=some (.pointer (some ⟨d.hb,0,none⟩))
 k3:w.cell? ⟨b3,0,none⟩=some (.func (.func 138) #[] #[.pointer (some ⟨b1,0,none⟩),.pointer (some ⟨b2,0,none⟩),.pointer (some ⟨b3,0,none⟩)])
 mm:MapAt Tryz.prog w gl L
 mlt:∀ x ∈ L,x < S.words.length
 n1:b1 ≠ gl
 n2:b2 ≠ gl
 n3:b3 ≠ gl
 m0:d.hb ≠ gl
 m1:d.gw ≠ gl
 m2:d.gm ≠ gl
 m3:∀ b o,d.sp=some ⟨b,o,none⟩ → b ≠ gl
 m4:∀ b o,d.op=some ⟨b,o,none⟩ → b ≠ gl
namespace Mk
variable {w w':World} {d:Hd} {S:Hp.Hs} {b1 b2 b3 gl:Nat} {L L':List Nat}
theorem ext (h:Mk w d S b1 b2 b3 gl L) (k:Ext w w'):Mk w' d S b1 b2 b3 gl L:=
 { h with
   toHAt:=h.toHAt.ext k
   k1:=(k.cell (cell_lt h.k1) 0).trans h.k1
   k2:=(k.cell (cell_lt h.k2) 0).trans h.k2
   k3:=(k.cell (cell_lt h.k3) 0).trans h.k3
   mm:=h.mm.ext k }
theorem put (h:Mk w d S b1 b2 b3 gl L) (k:But [gl] w w') (hm:MapAt Tryz.prog w' gl L') (hl:∀ x ∈ L',x < S.words.length):Mk w' d S b1 b2 b3 gl L':=
 { h with
   toHAt:=h.toHAt.but k (by simp [h.m0]) (by simp [h.m1]) (by simp [h.m2]) (fun b o e=>by simp [h.m3 b o e]) (fun b o e=>by simp [h.m4 b o e])
   k1:=(k.cell (cell_lt h.k1) (by simp [h.n1]) 0).trans h.k1
   k2:=(k.cell (cell_lt h.k2) (by simp [h.n2]) 0).trans h.k2
   k3:=(k.cell (cell_lt h.k3) (by simp [h.n3]) 0).trans h.k3
   mm:=hm
   mlt:=hl }
end Mk
structure Marked (S:Hp.Hs) (L L':List Nat) (a:Nat):Prop where
 up:∀ x ∈ L,x ∈ L'
 self:a ∈ L'
 reach:∀ x ∈ L',x ∈ L ∨ S.Reach [a] x
 closed:∀ x ∈ L',x ∈ L ∨ ∀ b,S.Kid x b → b ∈ L'
def MarkPost (w:World) (d:Hd) (S:Hp.Hs) (b1 b2 b3 gl:Nat) (L:List Nat) (a:Nat) (e:Ending) (w':World):Prop:=
 e = .returned (.tuple #[]) ∧ ∃ L',Mk w' d S b1 b2 b3 gl L' ∧ But [gl] w w' ∧ Marked S L L' a
theorem adrs_rd {ks:List Int} {l:List Nat} (h:Hp.Hs.adrs ks=some l):l.length=ks.length ∧ ∀ (j:Nat) (x:Int),Hp.rd ks j=some x → ∃ k:Nat,l[j]? = some k ∧ x=k:=by
 induction ks generalizing l with
 | nil=>
  simp [Hp.Hs.adrs] at h;subst h;exact ⟨rfl,fun j x hx=>by cases hx⟩
 | cons a r ih=>
  unfold Hp.Hs.adrs at h;rw [List.mapM_cons] at h;simp only [Option.bind_eq_bind,Option.bind_eq_some_iff,Option.pure_def,Option.some.injEq] at h;obtain ⟨k,hk,l',hl',rfl⟩:=h;obtain ⟨h1,h2⟩:=ih hl';refine ⟨by simp [h1],fun j x hx=>?_⟩
  cases j with
  | zero=>
   have:a=x:=by simpa [Hp.rd] using hx
   subst this;exact ⟨k,rfl,adr_some hk⟩
  | succ j=>simpa using h2 j x (by simpa [Hp.rd] using hx)
structure Marking (S:Hp.Hs) (L Lj:List Nat) (a:Nat) (l:List Nat) (j:Nat):Prop where
 up:∀ x ∈ L,x ∈ Lj
 self:a ∈ Lj
 kids:∀ i k,i < j → l[i]? = some k → k ∈ Lj
 reach:∀ x ∈ Lj,x ∈ L ∨ S.Reach [a] x
 closed:∀ x ∈ Lj,x ∈ L ∨ x=a ∨ ∀ b,S.Kid x b → b ∈ Lj
theorem mark_done {w:World} {d:Hd} {S:Hp.Hs} {b1 b2 b3 gl a:Nat} {L:List Nat} (h:Mk w d S b1 b2 b3 gl L) (hL:a ∈ L) :
    Calls Tryz.prog 138 #[.int .i64 a,.pointer (some ⟨b1,0,none⟩),.pointer (some ⟨b2,0,none⟩),.pointer (some ⟨b3,0,none⟩)] w (MarkPost w d S b1 b2 b3 gl L a):=by
  have hal:=h.mlt a hL;have sm:=h.small;have H:=Lib.hid h;have k1:=h.k1;have hlk:=h.mm.look (t:=102) Tryz.underlying3 Tryz.underlying4 Tryz.underlying102 (Tryz.zeroValue4 w) (x:=a) (by omega) (by omega);rw [hasLit_int,show L.contains a=true by simpa using hL] at hlk;have HL:=Lib.hid hL;clear h hL;go_enter Tryz.func138,Tryz.ntmps138
  go_wp2_with fail
  go_returns;exact ⟨rfl,L,H.out,But.refl _ _,fun x hx=>hx,HL.out,fun x hx=>.inl hx,fun x hx=>.inl hx⟩
set_option maxRecDepth 100000 in
set_option maxHeartbeats 4000000 in
theorem mark_any (k:Nat):∀ (w:World) (d:Hd) (S:Hp.Hs) (b1 b2 b3 gl a:Nat) (L:List Nat) (_:missing S.words.length L ≤ k) (_:Mk w d S b1 b2 b3 gl L) (_:∀ x,S.Reach [a] x → S.Kids x),
    Calls Tryz.prog 138 #[.int .i64 a,.pointer (some ⟨b1,0,none⟩),.pointer (some ⟨b2,0,none⟩),.pointer (some ⟨b3,0,none⟩)] w (MarkPost w d S b1 b2 b3 gl L a):=by
  induction k with
  | zero=>
   intro w d S b1 b2 b3 gl a L hm h hk;have hal:=(hk a (.root (by simp))).lt;have hL:a ∈ L:=by
    apply Classical.byContradiction;intro hL;have:=missing_ins hal hL;omega
   exact mark_done h hL
  | succ k ih=>
   intro w d S b1 b2 b3 gl a L hm h hk;have hka:=hk a (.root (by simp));have hal:=hka.lt;have sm:=h.small;have H:=Lib.hid h;have k1:=h.k1
   by_cases hL:a ∈ L
   · exact mark_done h hL
   · have hlk:=h.mm.look (t:=102) Tryz.underlying3 Tryz.underlying4 Tryz.underlying102 (Tryz.zeroValue4 w) (x:=a) (by omega) (by omega);rw [hasLit_int,show L.contains a=false by simpa using hL] at hlk;obtain ⟨x1,hup,hmx,htx⟩:=h.mm.put (t:=102) Tryz.underlying3 Tryz.underlying4 Tryz.underlying102 (by have:=sorted_len h.mm.sorted h.mlt;unfold maxLen;omega) (a:=a) (by omega);have B1:But [gl] w x1:=(But.refl _ _).turned htx (.inl (by simp));have M1:=Lib.hid (h.put B1 hmx (fun x hx=>by
      rcases (mem_ins a x L).1 hx with rfl | hx
      · exact hal
      · exact h.mlt x hx))
     have hmis:=missing_ins hal hL;obtain ⟨ks,l,hks,hl⟩:=hka;obtain ⟨t,ht,hkq⟩:=kids_some hks;obtain ⟨hll,hlr⟩:=adrs_rd hl;have HK:=Lib.hid hk;have HKS:=Lib.hid hks;have HLL:=Lib.hid hl;have HT:=Lib.hid ht;have HLR:=Lib.hid hlr;have BB:=Lib.hid B1;have HIH:=Lib.hid ih;have LL:=Lib.hid hll;clear h hk hkq hks hl ht hlr hmx htx B1 ih hll hL;have k1':=M1.out.k1;have k2':=M1.out.k2;go_enter Tryz.func138,Tryz.ntmps138
     go_wp2_with (go_at_call 80;refine (kids_any M1.out.toHAt HT.out HKS.out).mono ?_;rintro e w1 ⟨rfl,hb1⟩;obtain ⟨hc1,hf1,hs1⟩:=hb1.cells)
     have M2:=Lib.hid (M1.out.ext hb1);have B2:=Lib.hid (BB.out.ext hb1);have K2:=Lib.hid (kids_at M2.out.toHAt HT.out HKS.out);generalize hpk:kp d a t=pk at K2;have hpn:∀ b o,pk=some ⟨b,o,none⟩ → b=d.gw:=by
      intro b o e;rw [← hpk] at e;unfold kp at e
      split at e
      · cases e
      · cases e;rfl
     have HPN:=Lib.hid hpn;have KL:=Lib.hid K2.out.le;have ksm:ks.length ≤ 1000000:=by
      obtain ⟨t',_,hq⟩:=kids_some HKS.out
      rcases hq with ⟨_,rfl⟩ | ⟨_,hf⟩
      · simp
      · obtain ⟨_,q,_,_,h1,h2,_⟩:=fields_some hf;omega
     have MG0:Marking S L (Hp.Hs.insert a L) a l 0:=
      ⟨fun x hx=>(mem_ins a x L).2 (.inr hx),(mem_ins a a L).2 (.inl rfl),fun i k hi=>absurd hi (Nat.not_lt_zero _),
       fun x hx=>by
        rcases (mem_ins a x L).1 hx with rfl | hx
        · exact .inr (.root (by simp))
        · exact .inl hx,
       fun x hx=>by
        rcases (mem_ins a x L).1 hx with rfl | hx
        · exact .inr (.inl rfl)
        · exact .inl hx⟩
     clear hpk hpn M1 BB hb1 hc1 hf1 hs1 hlk hup k1 k1' k2'
     go_loopg [16] ks.length (fun g i wr=>∃ (j:Nat) (Lj:List Nat),j ≤ ks.length ∧ ks.length-j ≤ g ∧ i = .int .i64 j ∧ Hid (Mk wr d S b1 b2 b3 gl Lj) ∧ Hid (But [gl] w wr) ∧ Hid (SliceAt wr pk ks.length ks) ∧ Aside (Marking S L Lj a l j))
     case atStart=>exact ⟨0,_,Nat.zero_le _,by omega,rfl,M2,B2,K2,MG0⟩
     case round=>
      obtain ⟨j,Lj,hj,hg,rfl,M,B,K,MG⟩:=hrel;clear M2 B2 K2
      by_cases hlt:j < ks.length
      · obtain ⟨x,hx⟩:=rd_get hlt;obtain ⟨kd,hkd,rfl⟩:=HLR.out j x hx;obtain ⟨b,o,hpb,hb,hcell⟩:=K.out.cells (by omega);have gx:=hcell j kd hx;have K3:=M.out.k3;have hkid:S.Kid a kd:=⟨ks,l,HKS.out,HLL.out,List.mem_of_getElem? hkd⟩
        have hmj:missing S.words.length Lj ≤ k:=by
         have h1:missing S.words.length Lj ≤ missing S.words.length (Hp.Hs.insert a L):=missing_mono (fun y hy=>by
          rcases (mem_ins a y L).1 hy with rfl | hy
          · exact MG.out.self
          · exact MG.out.up y hy)
         omega
        have hreach:∀ y,S.Reach [kd] y → S.Reach [a] y:=fun y hy=>hy.mono (fun z hz=>by
         have:z=kd:=by simpa using hz
         subst this;exact .step (.root (by simp)) hkid)
        have CALL:=Lib.hid (HIH.out wr d S b1 b2 b3 gl kd Lj hmj M.out (fun y hy=>HK.out y (hreach y hy)));have HKD:=Lib.hid hkd;have HRE:=Lib.hid hreach;clear hx hcell hmj hreach hkd hkid;subst hpb
        go_wp2_with fail
        refine (Calls.mono CALL.out ?_);rintro e w' ⟨rfl,L',M',B',MD⟩
        go_wp2_with fail
        have bne:b ≠ gl:=by
         rw [HPN.out b o rfl];exact M.out.m1
        go_roundg (ks.length-(j+1))
        case measure=>omega
        case rel=>
         refine ⟨j+1,L',by omega,Nat.le_refl _,by go_num,Lib.hid M',Lib.hid (B.out.trans B'),Lib.hid (K.out.but B' (fun b' o' e=>by cases e;simp [bne])),(show Aside _ from ?_)⟩;refine ⟨fun x hx=>MD.up x (MG.out.up x hx),MD.up a MG.out.self,fun i k hi hk=>?_,fun x hx=>?_,fun x hx=>?_⟩
         · by_cases e:i=j
           · subst e;have:=HKD.out;rw [hk] at this
             cases this
             exact MD.self
           · exact MD.up k (MG.out.kids i k (by omega) hk)
         · rcases MD.reach x hx with h | h
           · exact MG.out.reach x h
           · exact .inr (HRE.out x h)
         · rcases MD.closed x hx with h | h
           · rcases MG.out.closed x h with h | h | h
             · exact .inl h
             · exact .inr (.inl h)
             · exact .inr (.inr fun b hb=>MD.up b (h b hb))
           · exact .inr (.inr h)
      · have:j=ks.length:=by omega
        subst this
        go_wp2_with fail
        go_returns;refine ⟨rfl,Lj,M.out,B.out,MG.out.up,MG.out.self,MG.out.reach,fun x hx=>?_⟩
        rcases MG.out.closed x hx with h | rfl | h
        · exact .inl h
        · refine .inr fun b hb=>?_
          obtain ⟨ks',l',h1,h2,hb⟩:=hb;have e1:=HKS.out;rw [h1] at e1
          cases e1
          have e2:=HLL.out;rw [h2] at e2
          cases e2
          obtain ⟨i,hi,rfl⟩:=List.getElem_of_mem hb;exact MG.out.kids i _ (by have:=LL.out;omega) (List.getElem?_eq_getElem hi)
        · exact .inr h
end Go.Proofs.YtdokmmhjmclmnaaGreat
