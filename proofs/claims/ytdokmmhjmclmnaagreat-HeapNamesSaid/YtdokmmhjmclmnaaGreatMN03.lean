/-
  Part 3 of a proof: HFn4 HFn5 HFn6 HFn7 HFn8 HFn9 HMoveM HMap3.
-/
import Derived.StillTailTactics
import Derived.Test.YtdokmmhjmclmnaaGreatMN02
set_option linter.unusedSimpArgs false
set_option linter.unusedVariables false
set_option linter.unusedSectionVars false
set_option linter.unnecessarySimpa false
namespace Go.Proofs.YtdokmmhjmclmnaaGreat
open Go.RowKit
theorem run_clear_words {w:World} {d:Hd} {S:Hp.Hs} (h:HAt w d S) {i n:Nat} {W:List Int} (hz:Hp.zero S.words i n=some W) (hn:0 < n) (c:Nat) (ty:TypeId) :
    (Builtin.clear_ #[22] ty #[.slice (some ⟨d.gw,i,none⟩) n c]).run Tryz.prog w = .ok (.tuple #[]) (w.setCells d.gw i (List.replicate n (.int .i64 0))):=
  Lib.run_clear_slice w _ 3 ty (.int .i64 0) Tryz.underlying22 (fun w=>Tryz.zeroValue3 w) rfl rfl d.gw i n c hn
   (fun j hj=>by
    obtain ⟨x,hx⟩:=rd_get (l:=S.words) (j:=i+j) (by have:=(HAt.zero_len hz).2;omega);rw [h.words.get hx];rfl)
   (fun j _=>h.words.froz _)
theorem takeFrom_succ {W W':List Int} {wide n link r:Nat} (h:Hp.Hs.takeFrom W wide n link=some (r,W')) :
    ∃ n' a,n=n'+1 ∧ Hp.ra W link=some a ∧ ((a=0 ∧ r=0 ∧ W'=W) ∨ (a ≠ 0 ∧ ∃ v next,Hp.rc W (a+1)=some v ∧ Hp.rd W (a+2)=some next ∧
     ((v-wide=0 ∧ r=a ∧ ∃ W1,Hp.wr W link next=some W1 ∧ Hp.zero W1 a wide=some W') ∨
      (v-wide ≠ 0 ∧ 3 ≤ v-wide ∧ r=a ∧ ∃ W1 W2 W3 W4,Hp.wr W (a+wide) 0=some W1 ∧ Hp.wr W1 (a+wide+1) (v-wide)=some W2 ∧ Hp.wr W2 (a+wide+2) next=some W3 ∧ Hp.wr W3 link (a+wide:Nat)=some W4 ∧ Hp.zero W4 a wide=some W') ∨
      (v-wide ≠ 0 ∧ ¬ 3 ≤ v-wide ∧ Hp.Hs.takeFrom W wide n' (a+2)=some (r,W'))))):=by
  cases n with
  | zero=>simp [Hp.Hs.takeFrom] at h
  | succ n=>
   unfold Hp.Hs.takeFrom at h;simp only [Option.bind_eq_bind,Option.bind_eq_some_iff] at h;obtain ⟨a,ha,h⟩:=h;refine ⟨n,a,rfl,ha, ?_⟩
   split at h
   · rename_i h0;simp only [Option.some.injEq,Prod.mk.injEq] at h;exact .inl ⟨h0,h.1.symm,h.2.symm⟩
   · rename_i h0;simp only [Option.bind_eq_some_iff] at h;obtain ⟨v,hv,next,hx,h⟩:=h;refine .inr ⟨h0,v,next,hv,hx, ?_⟩
     split at h
     · rename_i h1;simp only [Option.bind_eq_some_iff,Option.some.injEq,Prod.mk.injEq] at h;obtain ⟨W1,hW1,W2,hW2,h2,rfl⟩:=h;exact .inl ⟨h1,h2.symm,W1,hW1,hW2⟩
     · rename_i h1
       split at h
       · rename_i h3;simp only [Option.bind_eq_some_iff,Option.some.injEq,Prod.mk.injEq] at h;obtain ⟨W1,hW1,W2,hW2,W3,hW3,W4,hW4,W5,hW5,h2,rfl⟩:=h;exact .inr (.inl ⟨h1,h3,h2.symm,W1,W2,W3,W4,hW1,hW2,hW3,hW4,hW5⟩)
       · rename_i h3;exact .inr (.inr ⟨h1,h3,h⟩)
set_option maxRecDepth 100000 in
set_option maxHeartbeats 4000000 in
theorem take_any {w:World} {d:Hd} {S:Hp.Hs} {wide r:Nat} {W:List Int} (h:HAt w d S) (hn:0 < wide) (hw:wide ≤ 1000) (hr:S.take wide=some (r,W)) :
    Calls Tryz.prog 157 #[.pointer (some ⟨d.hb,0,none⟩),.int .i64 wide] w (Turned d w (.int .i64 r) { S with words:=W }):=by
  unfold Hp.Hs.take at hr;have hle:=h.le;have hcap:=h.cap;have c2:=h.c2;have f2:=h.f2;have z1:=h.lt;have z2:=h.words.lt;have ap:=h.apart1;have ap':=h.apart1.symm;have H:=Lib.hid (Now.refl h);have HR:=Lib.hid hr;have hl16:16 < S.words.length:=by
   obtain ⟨n',a,_,ha,_⟩:=takeFrom_succ hr;exact rd_lt (ra_some ha)
  obtain ⟨x16,hx16⟩:∃ x,Hp.ra S.words 16=some x:=by
   obtain ⟨n',a,_,ha,_⟩:=takeFrom_succ hr;exact ⟨a,ha⟩
  have g16:=h.words.get (ra_some hx16);have X16:=Lib.hid hx16;clear h hr hx16;go_enter Tryz.func157,Tryz.ntmps157
  go_wp2_with fail
  go_step3
  go_wp2_with fail
  go_step3
  go_wp2_with fail
  go_loopg [5,6] S.fuel (fun g l s wr=>∃ m link a:Nat,wr=w ∧ m ≤ g ∧ l = .int .i64 link ∧ s = .int .i64 a ∧ link < S.words.length ∧ Hid (Hp.ra S.words link=some a) ∧ Hid (Hp.Hs.takeFrom S.words wide m link=some (r,W)))
  case atStart=>exact ⟨S.fuel,16,x16,rfl,Nat.le_refl _,rfl,rfl,hl16,X16,HR⟩
  case round=>
   obtain ⟨m,link,a,rfl,hm,rfl,rfl,hlink,HA,HL⟩:=hrel;clear g16;obtain ⟨n',a1,hn',ha1,hq⟩:=takeFrom_succ HL.out;have e:=HA.out;rw [ha1] at e
   cases e
   have Hn:=Lib.hid hn';clear hn' ha1
   rcases hq with ⟨rfl,rfl,rfl⟩ | ⟨ha,v,next,hv,hx,hq⟩
   · go_wp2_with fail
     go_returns;exact H.out.done
   · obtain ⟨hv,hv1,hv2⟩:=rc_some hv;have g1:=H.out.words.get hv;have g2:=H.out.words.get hx;have l1:=rd_lt hv;have l2:=rd_lt hx;have HX:=Lib.hid hx;have ha':((a:Int) != 0)=true:=by simpa using ha
     clear hv hx
     rcases hq with ⟨h0,rfl,W1,hW1,hW2⟩ | ⟨h0,h3,rfl,W1,W2,W3,W4,hW1,hW2,hW3,hW4,hW5⟩ | ⟨h0,h3,hq⟩
     · have hb:=H.out.words.bound HX.out;have HB:=Lib.hid hb;have t0:((v-(wide:Int)) == 0)=true:=by simpa using h0
       have hz:=(HAt.zero_len hW2).2;have e1:S.words.length=W1.length:=(HAt.wr_len hW1).1.symm;rw [← e1] at hz;have EW1:=Lib.hid hW1;have EW2:=Lib.hid hW2;clear h0 hW1 e1 hb hW2
       go_wp2_with fail
       clear c2 f2 g1 g2 z1 z2;refine wp_region_still_tail 13 (by kernel_rfl) (by kernel_rfl) ?_;change wpStill _ _ (World.drew wr) (fun a'=>wpList _ _ _ _ a' (World.drew wr)) _ _;have ED:Ext wr (World.drew wr):=Ext.drew (Ext.refl _);have HD:=Lib.hid (H.out.ext ED);generalize World.drew wr=wd at HD ED ⊢;have c2:=HD.out.c2;have c3:=HD.out.c3;have f2:=HD.out.f2;have z1:=HD.out.lt;have z2:=HD.out.words.lt;have g1:=HD.out.words.get HX.out;have fr:=HD.out.words.froz link;have g0:=HD.out.words.get (ra_some HA.out);obtain ⟨i1,i2,i3,i4⟩:IntKind.i64.wrap (((r:Nat):Int)+2)=((r:Nat):Int)+2 ∧ (0:Int) ≤ ((r:Nat):Int)+2 ∧ ((r:Nat):Int)+2 < ((S.words.length:Nat):Int) ∧ (((r:Nat):Int)+2).toNat=r+2:=⟨IntWalk.i64_in _ (by omega),by omega,by omega,by omega⟩
       simp only [List.take_succ_cons,List.take_zero,List.drop_succ_cons,List.drop_zero]
       repeat still_step
       refine wpStill_nil ?_;clear i1 i2 i3 i4 g1;have H1:=Lib.hid (HD.out.set EW1.out HB.out.1 HB.out.2);have hcl:=fun c ty=>run_clear_words H1.out.toHAt EW2.out hn c ty
       go_wp2_with fail
       (try rw [Exit.noGoto_ret])
       go_returns;exact (H1.out.clear EW2.out).done
     · have hb:=H.out.words.bound HX.out;have HB:=Lib.hid hb;have t0:((v-(wide:Int)) == 0)=false:=by simpa using h0
       have hz:=(HAt.zero_len hW5).2;have b1:=HAt.wr_len hW1;have b2:=HAt.wr_len hW2;have b3:=HAt.wr_len hW3;have b4:=HAt.wr_len hW4;have q1:=b1.2;have q2:r+wide+1 < S.words.length:=by have:=b2.2;rw [b1.1] at this;exact this
       have q3:r+wide+2 < S.words.length:=by have:=b3.2;rw [b2.1,b1.1] at this;exact this
       rw [b4.1,b3.1,b2.1,b1.1] at hz;obtain ⟨y1,hy1⟩:=rd_get q1;obtain ⟨y2,hy2⟩:=rd_get q2;obtain ⟨y3,hy3⟩:=rd_get q3;have Y1:=Lib.hid hy1;have Y2:=Lib.hid hy2;have Y3:=Lib.hid hy3;clear hy1 hy2 hy3;have EW1:=Lib.hid hW1;have EW2:=Lib.hid hW2;have EW3:=Lib.hid hW3;have EW4:=Lib.hid hW4;have EW5:=Lib.hid hW5;clear h0 hW1 hb hW2 hW3 hW4 hW5 b1 b2 b3 b4
       go_wp2_with fail
       clear c2 f2 g1 g2 z1 z2;obtain ⟨i1,i2,i3,i4⟩:IntKind.i64.wrap (((r:Nat):Int)+2)=((r:Nat):Int)+2 ∧ (0:Int) ≤ ((r:Nat):Int)+2 ∧ ((r:Nat):Int)+2 < ((S.words.length:Nat):Int) ∧ (((r:Nat):Int)+2).toNat=r+2:=⟨IntWalk.i64_in _ (by omega),by omega,by omega,by omega⟩
       obtain ⟨k1,k2,k3,k4⟩:IntKind.i64.wrap (((r:Nat):Int)+((wide:Nat):Int))=((r:Nat):Int)+((wide:Nat):Int) ∧ (0:Int) ≤ ((r:Nat):Int)+((wide:Nat):Int) ∧ ((r:Nat):Int)+((wide:Nat):Int) < ((S.words.length:Nat):Int) ∧ (((r:Nat):Int)+((wide:Nat):Int)).toNat=r+wide:=⟨IntWalk.i64_in _ (by omega),by omega,by omega,by omega⟩
       obtain ⟨l1,l2,l3,l4⟩:IntKind.i64.wrap (((r:Nat):Int)+((wide:Nat):Int)+1)=((r:Nat):Int)+((wide:Nat):Int)+1 ∧ (0:Int) ≤ ((r:Nat):Int)+((wide:Nat):Int)+1 ∧ ((r:Nat):Int)+((wide:Nat):Int)+1 < ((S.words.length:Nat):Int) ∧ (((r:Nat):Int)+((wide:Nat):Int)+1).toNat=r+wide+1:=⟨IntWalk.i64_in _ (by omega),by omega,by omega,by omega⟩
       obtain ⟨m1,m2,m3,m4⟩:IntKind.i64.wrap (((r:Nat):Int)+((wide:Nat):Int)+2)=((r:Nat):Int)+((wide:Nat):Int)+2 ∧ (0:Int) ≤ ((r:Nat):Int)+((wide:Nat):Int)+2 ∧ ((r:Nat):Int)+((wide:Nat):Int)+2 < ((S.words.length:Nat):Int) ∧ (((r:Nat):Int)+((wide:Nat):Int)+2).toNat=r+wide+2:=⟨IntWalk.i64_in _ (by omega),by omega,by omega,by omega⟩
       have c2:=H.out.c2;have z1:=H.out.lt;have z2:=H.out.words.lt;have g1:=H.out.words.get HX.out;refine wp_region_any (by kernel_rfl) ?_;refine' tkA 9 rfl ?hy9_25 ?_
       case hy9_25=>(intro w;go_simp;try with_reducible rfl)
       refine layy ?_;refine' tkA 10 rfl ?hy10_26 ?_
       case hy10_26=>(intro w;go_simp;try with_reducible rfl)
       refine layy ?_;refine' tkA 15 rfl ?hy15_27 ?_
       case hy15_27=>(intro w;go_simp;try with_reducible rfl)
       refine layy ?_;refine' tkA 16 rfl ?hy16_28 ?_
       case hy16_28=>(intro w;go_simp;try with_reducible rfl)
       refine layy ?_;refine' tkA 17 rfl ?hy17_29 ?_
       case hy17_29=>(intro w;go_simp;try with_reducible rfl)
       refine layy ?_;have PR3:=Lib.hid (fun (ww:World) (hSw:Ext wr ww)=>And.intro ((hSw.cell z1 2).trans c2) ((hSw.cell z2 (r+2)).trans g1));refine wpAny_to_X (S:=fun W=>Ext wr W) (R:=Ext) 26 21 Ext.refl ?_ ?_ (by rfl)
       · exact Ext.drew exx
       refine' tkY 0 rfl ?h0_30 ?_
       case h0_30=>(intro w q;obtain ⟨c2',g1'⟩:=PR3.out w q;go_simp;try with_reducible rfl)
       refine layy ?_;refine' tkY 1 rfl ?h1_31 ?_
       case h1_31=>(intro w q;obtain ⟨c2',g1'⟩:=PR3.out w q;go_simp;try with_reducible rfl)
       refine layy ?_;refine' tkY 2 rfl ?h2_32 ?_
       case h2_32=>(intro w q;obtain ⟨c2',g1'⟩:=PR3.out w q;go_simp;try with_reducible rfl)
       refine layy ?_;refine' tkY 3 rfl ?h3_33 ?_
       case h3_33=>(intro w q;obtain ⟨c2',g1'⟩:=PR3.out w q;go_simp;try with_reducible rfl)
       refine layy ?_;refine' tkY 4 rfl ?h4_34 ?_
       case h4_34=>(intro w q;obtain ⟨c2',g1'⟩:=PR3.out w q;go_simp;try with_reducible rfl)
       refine layy ?_;refine' tkY 5 rfl ?h5_35 ?_
       case h5_35=>(intro w q;obtain ⟨c2',g1'⟩:=PR3.out w q;go_simp;try with_reducible rfl)
       refine layy ?_;refine' tkY 6 rfl ?h6_36 ?_
       case h6_36=>(intro w q;obtain ⟨c2',g1'⟩:=PR3.out w q;go_simp;try with_reducible rfl)
       refine layy ?_;refine' tkY 7 rfl ?h7_37 ?_
       case h7_37=>(intro w q;obtain ⟨c2',g1'⟩:=PR3.out w q;go_simp;try with_reducible rfl)
       refine layy ?_;refine' tkY 8 rfl ?h8_38 ?_
       case h8_38=>(intro w q;obtain ⟨c2',g1'⟩:=PR3.out w q;go_simp;try with_reducible rfl)
       refine layy ?_;refine' tkY 11 rfl ?h11_39 ?_
       case h11_39=>(intro w q;obtain ⟨c2',g1'⟩:=PR3.out w q;go_simp;try with_reducible rfl)
       refine layy ?_;refine' tkY 12 rfl ?h12_40 ?_
       case h12_40=>(intro w q;obtain ⟨c2',g1'⟩:=PR3.out w q;go_simp;try with_reducible rfl)
       refine layy ?_;refine' tkY 13 rfl ?h13_41 ?_
       case h13_41=>(intro w q;obtain ⟨c2',g1'⟩:=PR3.out w q;go_simp;try with_reducible rfl)
       refine layy ?_;refine' tkY 14 rfl ?h14_42 ?_
       case h14_42=>(intro w q;obtain ⟨c2',g1'⟩:=PR3.out w q;go_simp;try with_reducible rfl)
       refine layy ?_;refine' tkY 18 rfl ?h18_43 ?_
       case h18_43=>(intro w q;obtain ⟨c2',g1'⟩:=PR3.out w q;go_simp;try with_reducible rfl)
       refine layy ?_;refine' tkY 19 rfl ?h19_44 ?_
       case h19_44=>(intro w q;obtain ⟨c2',g1'⟩:=PR3.out w q;go_simp;try with_reducible rfl)
       refine layy ?_;refine' tkY 20 rfl ?h20_45 ?_
       case h20_45=>(intro w q;obtain ⟨c2',g1'⟩:=PR3.out w q;go_simp;try with_reducible rfl)
       refine layy ?_;refine' tkY 21 rfl ?h21_46 ?_
       case h21_46=>(intro w q;obtain ⟨c2',g1'⟩:=PR3.out w q;go_simp;try with_reducible rfl)
       refine layy ?_;refine' tkY 22 rfl ?h22_47 ?_
       case h22_47=>(intro w q;obtain ⟨c2',g1'⟩:=PR3.out w q;go_simp;try with_reducible rfl)
       refine layy ?_;refine' tkY 23 rfl ?h23_48 ?_
       case h23_48=>(intro w q;obtain ⟨c2',g1'⟩:=PR3.out w q;go_simp;try with_reducible rfl)
       refine layy ?_;refine' tkY 24 rfl ?h24_49 ?_
       case h24_49=>(intro w q;obtain ⟨c2',g1'⟩:=PR3.out w q;go_simp;try with_reducible rfl)
       refine layy ?_;refine' tkY 25 rfl ?h25_50 ?_
       case h25_50=>(intro w q;obtain ⟨c2',g1'⟩:=PR3.out w q;go_simp;try with_reducible rfl)
       refine layy ?_;refine wpAnyX_done (by kernel_rfl) ?_;intro wd _ Ewd;simp only [List.drop_succ_cons,List.drop_zero];clear c2 z1 z2 g1;have HD:=Lib.hid (H.out.ext Ewd);have c2:=HD.out.c2;have f2:=HD.out.f2;have z1:=HD.out.lt;have z2:=HD.out.words.lt;have fr:=HD.out.words.froz link;have g0:=HD.out.words.get (ra_some HA.out);have g3:=HD.out.words.get Y1.out;have g4:=HD.out.words.get Y2.out;have g5:=HD.out.words.get Y3.out;have fr1:=HD.out.words.froz (r+wide);have fr2:=HD.out.words.froz (r+wide+1);have fr3:=HD.out.words.froz (r+wide+2);clear i1 i2 i3 i4 k1 k2 k3 k4 l1 l2 l3 l4 m1 m2 m3 m4;have H1:=Lib.hid (HD.out.set EW1.out (by omega) (by omega));have H2:=Lib.hid (H1.out.set EW2.out (by omega) (by omega));have H3:=Lib.hid (H2.out.set EW3.out HB.out.1 HB.out.2);go_upto_region 12 with (fail)
       refine Now.cut H3.out ?_;intro w3 N3;have H3:=Lib.hid N3;clear N3 fr fr1 fr2 fr3 g0 g3 g4 g5 c2 f2 z1 z2 H1 H2;have c2:=H3.out.c2;have f2:=H3.out.f2;have z1:=H3.out.lt;have z2:=H3.out.words.lt;have fr:=H3.out.words.froz link;have e3:=(HAt.wr_len EW4.out).2;obtain ⟨y,hy⟩:=rd_get e3;have g:=H3.out.words.get hy;have Y:=Lib.hid hy;have H4:=Lib.hid (H3.out.set EW4.out (by omega) (by omega));have hcl:=fun c ty=>run_clear_words H4.out.toHAt EW5.out hn c ty
       simp only [Int.natCast_add] at hcl H4;have E3:=Lib.hid e3;clear hy e3
       go_wp2_with fail
       go_returns;exact (H4.out.clear EW5.out).done
     · have t0:((v-(wide:Int)) == 0)=false:=by simpa using h0
       have hz:a+2 < S.words.length:=l2;obtain ⟨_,a2,_,hra2,_⟩:=takeFrom_succ hq;obtain rfl:next=(a2:Int):=by
        have h1:=HX.out;have h2:=ra_some hra2;rw [h2] at h1;exact (Option.some.inj h1).symm
       have g3:=H.out.words.get (ra_some hra2);have A2:=Lib.hid hra2;have HQ:=Lib.hid hq;clear h0 hq hra2
       go_wp2_with fail
       go_roundg n'
       case measure=>have:=Hn.out;omega
       case rel=>exact ⟨n',a+2,a2,rfl,Nat.le_refl _,by go_num,rfl,hz,A2,HQ⟩
def kp (d:Hd) (a:Nat) (t:Int):Option Addr:=if Hp.isEnd t then none else some ⟨d.gw,a+4,none⟩
theorem kids_some {S:Hp.Hs} {a:Nat} {ks:List Int} (h:S.kids a=some ks):∃ t,S.tag a=some t ∧ ((Hp.isEnd t=true ∧ ks=[]) ∨ (Hp.isEnd t=false ∧ S.fields a=some ks)):=by
 unfold Hp.Hs.kids at h
 simp only [Option.bind_eq_bind,Option.bind_eq_some_iff] at h
 obtain ⟨t,ht,h⟩:=h
 refine ⟨t,ht, ?_⟩
 cases he:Hp.isEnd t
 · rw [he] at h;exact .inr ⟨rfl,by simpa using h⟩
 · rw [he] at h;exact .inl ⟨rfl,by simpa using h.symm⟩
theorem kids_any {w:World} {d:Hd} {S:Hp.Hs} {a:Nat} {t:Int} {ks:List Int} (h:HAt w d S) (ht:S.tag a=some t) (hk:S.kids a=some ks) :
    Calls Tryz.prog 80 #[.pointer (some ⟨d.hb,0,none⟩),.int .i64 a] w fun e w'=>e = .returned (.slice (kp d a t) ks.length ks.length) ∧ Ext w w':=by
  obtain ⟨t',ht',hq⟩:=kids_some hk;rw [ht] at ht'
  cases ht'
  rcases hq with ⟨he,rfl⟩ | ⟨he,hf⟩
  · have:=kids_end h ht he
    simpa [kp,he] using this
  · have:=kids_node h ht he hf
    simpa [kp,he] using this
theorem kids_at {w:World} {d:Hd} {S:Hp.Hs} {a:Nat} {t:Int} {ks:List Int} (h:HAt w d S) (ht:S.tag a=some t) (hk:S.kids a=some ks):SliceAt w (kp d a t) ks.length ks:=by
 obtain ⟨t',ht',hq⟩:=kids_some hk
 rw [ht] at ht'
 cases ht'
 rcases hq with ⟨he,rfl⟩ | ⟨he,hf⟩
 · exact ⟨Nat.le_refl _,by simp,by simp,fun h=>by simp at h⟩
 · have:=fields_at h hf
   simpa [kp,he] using this
theorem lay_ck {fs:List Int} {t:Int} {k:Nat} (h:Hp.chain t fs=some k):(∀ x ∈ fs,-9223372036854775808 ≤ x ∧ x ≤ 9223372036854775807) ∧ -4611686018427387904 < t ∧ t < 4611686018427387904 ∧ k < 16:=by
 simp only [Hp.chain,Option.bind_eq_bind,Option.bind_eq_some_iff,Option.pure_def,Option.some.injEq] at h
 obtain ⟨t',ht,n0,hn,r,hr,rfl⟩:=h
 obtain ⟨rfl,h1,h2⟩:=ck_some ht
 refine ⟨?_,h1,h2,by omega⟩
 clear ht hn h1 h2
 generalize (0:Int)=i at hr
 induction fs generalizing i n0 with
 | nil=>intro x hx;cases hx
 | cons f l ih=>
  simp only [Hp.sums,Option.bind_eq_bind,Option.bind_eq_some_iff] at hr;obtain ⟨f',hf,m,hm,hr⟩:=hr;obtain ⟨rfl,h1,h2⟩:=ck_some hf;intro x hx
  rcases List.mem_cons.1 hx with rfl | hx
  · omega
  · exact ih _ _ hr x hx
theorem Now.copied {w0 w:World} {d:Hd} {S:Hp.Hs} {p:Option Addr} {c i:Nat} {l W:List Int} (h:Now w0 w d S) (hs:SliceAt w p c l) (h0:0 < l.length) (hw:Hp.lay S.words i l=some W)
    (hc:∀ x ∈ l,-9223372036854775808 ≤ x ∧ x ≤ 9223372036854775807):∃ w',(∀ n c' ty,l.length ≤ n → (Builtin.copy_ #[22,22] ty #[.slice (some ⟨d.gw,i,none⟩) n c',.slice p l.length c]).run Tryz.prog w = .ok (goInt (l.length:Nat)) w') ∧ Now w0 w' d { S with words:=W } ∧ (∀ {p' c' l'},SliceAt w p' c' l' → (∀ b o,p'=some ⟨b,o,none⟩ → b ≠ d.gw) → SliceAt w' p' c' l'):=by
  obtain ⟨b,o,rfl,hb,hx⟩:=hs.cells h0;obtain ⟨s,hg⟩:=h.words.row;have hl:=HAt.lay_len hw;have hfit:i+(ints l).length ≤ (ints S.words ++ s).toArray.size:=by simp [ints];omega
  have k1:But [d.gw] w (w.setRow d.gw (splice (ints S.words ++ s) i (ints l)).toArray):=(But.refl _ _).setRow (.inl (by simp)) _;refine ⟨w.setRow d.gw (splice (ints S.words ++ s) i (ints l)).toArray,fun n c' ty hn=>?_,⟨?_,(h.but).setRow (.inl d.gw_own) _⟩,fun hs' hne=>hs'.but k1 (fun b o e hm=>hne b o e (by simpa using hm))⟩
  · have hm:Nat.min l.length n=l.length:=Nat.min_eq_left hn;have:=run_copy_rowK (P:=Tryz.prog) w 22 22 ty 3 1 d.gw i n c' ⟨b,o,none⟩ l.length c _ 3 (ints l) Tryz.underlying22 (by kernel_rfl) hg (by rw [hm];simp [ints]) (fun j v hj=>by
     rw [Addr.add_lit];obtain ⟨hj1,hj2⟩:=List.getElem?_eq_some_iff.1 hj;have hj3:j < l.length:=by simpa [ints] using hj1
     rw [hx j l[j] (List.getElem?_eq_getElem hj3),← hj2];simp [ints]) hfit (fun v hv=>by
     obtain ⟨x,_,rfl⟩:=List.mem_map.1 hv;rfl)
    rw [hm] at this;rw [this];simp only [List.toList_toArray,splice,List.append_assoc]
  · refine h.toHAt.turn (k1.mono (by simp)) (h.words.spliced hw hc (fun cur hcur hle=>?_)) hl.1 (h.map.but k1 (by simp [h.apart3.symm])) (fun a ha=>by rw [hl.1];exact h.below a ha);rw [hg] at hcur;have e:cur=ints S.words ++ s:=by
     have:=Option.some.inj hcur;injection this with e1
     simpa using e1.symm
    subst e;exact setRow_heap w d.gw _ _ _ _ hg
theorem add_some {S S':Hp.Hs} {tag:Int} {fs:List Int} {r:Nat} (h:S.add tag fs=some (r,S')):∃ a0,S.look tag fs=some a0 ∧ ((a0 ≠ 0 ∧ r=a0 ∧ S'=S) ∨ (a0=0 ∧ ∃ k a W,Hp.wide S.sizes tag=some k ∧ S.take k=some (a,W) ∧
    ((a=0 ∧ r=0 ∧ S' = { S with words:=W }) ∨ (a ≠ 0 ∧ r=a ∧ ∃ head x W1 W2 W3 W4 ks W5,Hp.chain tag fs=some head ∧ Hp.rd W head=some x ∧ Hp.wr W a tag=some W1 ∧ Hp.wr W1 (a+3) x=some W2 ∧ Hp.lay W2 (a+4) fs=some W3 ∧ Hp.wr W3 head a=some W4 ∧
     Hp.Hs.kids { S with words:=W4,taken:=Hp.Hs.insert a S.taken } a=some ks ∧ Hp.Hs.use 1 ks.length (a+4) W4=some W5 ∧ S' = { S with words:=W5,taken:=Hp.Hs.insert a S.taken })))):=by
  unfold Hp.Hs.add at h;simp only [Option.bind_eq_bind,Option.bind_eq_some_iff] at h;obtain ⟨a0,h0,h⟩:=h;refine ⟨a0,h0, ?_⟩
  split at h
  · rename_i hne;simp only [Option.some.injEq,Prod.mk.injEq] at h;exact .inl ⟨hne,h.1.symm,h.2.symm⟩
  · rename_i hne;simp only [Option.bind_eq_some_iff] at h;obtain ⟨k,hk,⟨a,W⟩,hW,h⟩:=h;refine .inr ⟨by omega,k,a,W,hk,hW, ?_⟩;simp only at h
    split at h
    · rename_i ha;simp only [Option.some.injEq,Prod.mk.injEq] at h;exact .inl ⟨ha,h.1.symm,h.2.symm⟩
    · rename_i ha;simp only [Option.bind_eq_some_iff,Option.some.injEq,Prod.mk.injEq] at h;obtain ⟨head,h1,x,h2,W1,h3,W2,h4,W3,h5,W4,h6,ks,h7,W5,h8,rfl,rfl⟩:=h;exact .inr ⟨ha,rfl,head,x,W1,W2,W3,W4,ks,W5,h1,h2,h3,h4,h5,h6,h7,h8,rfl⟩
theorem use_succ {by':Int} {n j:Nat} {W W':List Int} (h:Hp.Hs.use by' (n+1) j W=some W'):∃ k v W1,Hp.ra W j=some k ∧ Hp.rc W (k+1)=some v ∧ Hp.wr W (k+1) (v+by')=some W1 ∧ Hp.Hs.use by' n (j+1) W1=some W':=by
 simp only [Hp.Hs.use,Option.bind_eq_bind,Option.bind_eq_some_iff] at h
 obtain ⟨k,hk,v,hv,W1,hW,h⟩:=h
 exact ⟨k,v,W1,hk,hv,hW,h⟩
theorem takeFrom_len:∀ {n:Nat} {W W':List Int} {wide link r:Nat},Hp.Hs.takeFrom W wide n link=some (r,W') → W'.length=W.length
 | 0,_,_,_,_,_,h=>by simp [Hp.Hs.takeFrom] at h
 | n+1,W,W',wide,link,r,h=>by
  obtain ⟨n',a,hn,_,hq⟩:=takeFrom_succ h
  rcases hq with ⟨_,_,rfl⟩ | ⟨_,v,next,_,_,hq⟩
  · rfl
  · rcases hq with ⟨_,_,W1,h1,h2⟩ | ⟨_,_,_,W1,W2,W3,W4,h1,h2,h3,h4,h5⟩ | ⟨_,_,h1⟩
    · rw [(HAt.zero_len h2).1,(HAt.wr_len h1).1]
    · rw [(HAt.zero_len h5).1,(HAt.wr_len h4).1,(HAt.wr_len h3).1,(HAt.wr_len h2).1,(HAt.wr_len h1).1]
    · obtain rfl:n=n':=by omega
      exact takeFrom_len h1
theorem Now.len {w0 w:World} {d:Hd} {S:Hp.Hs} (h:Now w0 w d S) {n:Nat} (e:S.words.length=n):w.cell? ⟨d.hb,2,none⟩=some (.slice (some ⟨d.gw,0,none⟩) n d.cap):=by
 rw [← e]
 exact h.c2
set_option maxRecDepth 100000 in
set_option maxHeartbeats 8000000 in
theorem add_any {w:World} {d:Hd} {S S':Hp.Hs} {p:Option Addr} {c r:Nat} {tag:Int} {l:List Int} (h:HAt w d S) (hf:SliceAt w p c l) (h0:0 < l.length) (far:∀ b o,p=some ⟨b,o,none⟩ → b ∉ d.own) (hr:S.add tag l=some (r,S')) :
    Calls Tryz.prog 107 #[.pointer (some ⟨d.hb,0,none⟩),.int .i64 tag,.slice p l.length c] w (Turned d w (.int .i64 r) S'):=by
  obtain ⟨a0,hL,hq⟩:=add_some hr;have HL:=Lib.hid hL;have HF:=Lib.hid hf;have FAR:=Lib.hid far;have H:=Lib.hid (Now.refl h);clear hL hr
  rcases hq with ⟨hne,rfl,rfl⟩ | ⟨rfl,k,a,W,hk,hT,hq⟩
  · have t0:((r:Int) != 0)=true:=by simpa using hne
    clear h hf far;go_enter Tryz.func107,Tryz.ntmps107
    go_wp2_with (go_at_call 110;refine (look_any H.out.toHAt HF.out HL.out).mono ?_;rintro e w1 ⟨rfl,hb1⟩;obtain ⟨hc1,hf1,hs1⟩:=hb1.cells)
    go_returns;exact (H.out.ext hb1).done
  · have hwk:=wide_le h hk;have c0:=h.c0;have c1:=h.c1;have z1:=h.lt;have hle:=h.le;have hcap:=h.cap;have ap:=h.apart1;have ap':=h.apart1.symm;have ap2:=h.apart2;have ap3:=h.apart3;have HK:=Lib.hid hk;have HT:=Lib.hid hT;clear h hf far hk hT
    rcases hq with ⟨rfl,rfl,rfl⟩ | ⟨ha,rfl,head,x,W1,W2,W3,W4,ks,W5,hch,hx,hW1,hW2,hW3,hW4,hks,hW5,rfl⟩
    · go_enter Tryz.func107,Tryz.ntmps107
      go_wp2_with (first
       | (go_at_call 110;refine (look_any H.out.toHAt HF.out HL.out).mono ?_;rintro e w1 ⟨rfl,hb1⟩;obtain ⟨hc1,hf1,hs1⟩:=hb1.cells)
       | (go_at_call 123;refine (wide_any (H.out.ext hb1).sizes HK.out (by omega)).mono ?_;rintro e w2 ⟨rfl,hb2⟩;obtain ⟨hc2,hf2,hs2⟩:=hb2.cells)
       | (go_at_call 157;refine (take_any ((H.out.ext hb1).ext hb2).toHAt (by omega) (by omega) HT.out).mono ?_;rintro e w3 ⟨rfl,hA3,hB3⟩))
      go_returns;exact ⟨rfl,hA3,(But.ofExt (hb1.trans hb2)).trans hB3⟩
    · have t0:((r:Int) == 0)=false:=by simpa using ha
      have e0:W.length=S.words.length:=takeFrom_len HT.out;have e1:=(HAt.wr_len hW1).1.trans e0;have e2:=(HAt.wr_len hW2).1.trans e1;have e3:=(HAt.lay_len hW3).1.trans e2;have e4:=(HAt.wr_len hW4).1.trans e3;have b0:=rd_lt hx;rw [e0] at b0;have b1:=(HAt.wr_len hW1).2;rw [e0] at b1;have b2:=(HAt.wr_len hW2).2;rw [e1] at b2;have b3:=(HAt.lay_len hW3).2;rw [e2] at b3;obtain ⟨hck,ht1,ht2,hh⟩:=lay_ck hch;have LCK:=Lib.hid hck;have HCH:=Lib.hid hch;have HX:=Lib.hid hx;have EW1:=Lib.hid hW1;have EW2:=Lib.hid hW2;have EW3:=Lib.hid hW3;have EW4:=Lib.hid hW4;have EW5:=Lib.hid hW5;have HKS:=Lib.hid hks;generalize hn:S.words.length=n at hle e0 e1 e2 e3 e4 b0 b1 b2 b3;have E0:=Lib.hid e0;have E1:=Lib.hid e1;have E2:=Lib.hid e2;have E3:=Lib.hid e3;have E4:=Lib.hid e4;have EN:=Lib.hid hn;clear hn e0 e1 e2 e3 e4 hch hx hW1 hW2 hW3 hW4 hW5 hks hck;go_enter Tryz.func107,Tryz.ntmps107
      go_upto_region 8 with (first
       | (go_at_call 110;refine (look_any H.out.toHAt HF.out HL.out).mono ?_;rintro e w1 ⟨rfl,hb1⟩;obtain ⟨hc1,hf1,hs1⟩:=hb1.cells)
       | (go_at_call 123;refine (wide_any (H.out.ext hb1).sizes HK.out (by omega)).mono ?_;rintro e w2 ⟨rfl,hb2⟩;obtain ⟨hc2,hf2,hs2⟩:=hb2.cells)
       | (go_at_call 157;refine (take_any ((H.out.ext hb1).ext hb2).toHAt (by omega) (by omega) HT.out).mono ?_;rintro e w3 ⟨rfl,hA3,hB3⟩;have B3:=(But.ofExt (hb1.trans hb2)).trans hB3;have F3:=HF.out.but B3 FAR.out;have N3:=Lib.hid (Now.mk hA3 B3);clear hA3)
       | (go_at_call 132;refine (chain_any F3 HCH.out).mono ?_;rintro e w4 ⟨rfl,hb4⟩;obtain ⟨hc4,hf4,hs4⟩:=hb4.cells))
      have N4:=Lib.hid (N3.out.ext hb4);clear c0 c1 z1 hB3 B3 F3 hb1 hb2 hb4 N3;have c2:=N4.out.len E0.out;have z1:=N4.out.lt;have z2:=N4.out.words.lt;have g:=N4.out.words.get HX.out;obtain ⟨k1,k2,k3,k4⟩:IntKind.i64.wrap (((r:Nat):Int)+3)=((r:Nat):Int)+3 ∧ (0:Int) ≤ ((r:Nat):Int)+3 ∧ ((r:Nat):Int)+3 < ((n:Nat):Int) ∧ (((r:Nat):Int)+3).toNat=r+3:=⟨IntWalk.i64_in _ (by omega),by omega,by omega,by omega⟩
      have k5:IntKind.i64.wrap (r:Int)=r:=IntWalk.i64_in _ (by omega);refine wp_region_any (by kernel_rfl) ?_;refine' tkA 10 rfl ?hy10_51 ?_
      case hy10_51=>(intro w;go_simp;try with_reducible rfl)
      refine layy ?_;refine' tkA 11 rfl ?hy11_52 ?_
      case hy11_52=>(intro w;go_simp;try with_reducible rfl)
      refine layy ?_;have PR4:=Lib.hid (fun (ww:World) (hSw:Ext w4 ww)=>And.intro ((hSw.cell z1 2).trans c2) ((hSw.cell z2 head).trans g));refine wpAny_to_X (S:=fun W=>Ext w4 W) (R:=Ext) 20 18 Ext.refl ?_ ?_ (by rfl)
      · exact Ext.drew exx
      refine' tkY 0 rfl ?h0_53 ?_
      case h0_53=>(intro w q;obtain ⟨c2',g'⟩:=PR4.out w q;go_simp;try with_reducible rfl)
      refine layy ?_;refine' tkY 1 rfl ?h1_54 ?_
      case h1_54=>(intro w q;obtain ⟨c2',g'⟩:=PR4.out w q;go_simp;try with_reducible rfl)
      refine layy ?_;refine' tkY 2 rfl ?h2_55 ?_
      case h2_55=>(intro w q;obtain ⟨c2',g'⟩:=PR4.out w q;go_simp;try with_reducible rfl)
      refine layy ?_;refine' tkY 3 rfl ?h3_56 ?_
      case h3_56=>(intro w q;obtain ⟨c2',g'⟩:=PR4.out w q;go_simp;try with_reducible rfl)
      refine layy ?_;refine' tkY 4 rfl ?h4_57 ?_
      case h4_57=>(intro w q;obtain ⟨c2',g'⟩:=PR4.out w q;go_simp;try with_reducible rfl)
      refine layy ?_;refine' tkY 5 rfl ?h5_58 ?_
      case h5_58=>(intro w q;obtain ⟨c2',g'⟩:=PR4.out w q;go_simp;try with_reducible rfl)
      refine layy ?_;refine' tkY 6 rfl ?h6_59 ?_
      case h6_59=>(intro w q;obtain ⟨c2',g'⟩:=PR4.out w q;go_simp;try with_reducible rfl)
      refine layy ?_;refine' tkY 7 rfl ?h7_60 ?_
      case h7_60=>(intro w q;obtain ⟨c2',g'⟩:=PR4.out w q;go_simp;try with_reducible rfl)
      refine layy ?_;refine' tkY 8 rfl ?h8_61 ?_
      case h8_61=>(intro w q;obtain ⟨c2',g'⟩:=PR4.out w q;go_simp;try with_reducible rfl)
      refine layy ?_;refine' tkY 9 rfl ?h9_62 ?_
      case h9_62=>(intro w q;obtain ⟨c2',g'⟩:=PR4.out w q;go_simp;try with_reducible rfl)
      refine layy ?_;refine' tkY 12 rfl ?h12_63 ?_
      case h12_63=>(intro w q;obtain ⟨c2',g'⟩:=PR4.out w q;go_simp;try with_reducible rfl)
      refine layy ?_;refine' tkY 13 rfl ?h13_64 ?_
      case h13_64=>(intro w q;obtain ⟨c2',g'⟩:=PR4.out w q;go_simp;try with_reducible rfl)
      refine layy ?_;refine' tkY 14 rfl ?h14_65 ?_
      case h14_65=>(intro w q;obtain ⟨c2',g'⟩:=PR4.out w q;go_simp;try with_reducible rfl)
      refine layy ?_;refine' tkY 15 rfl ?h15_66 ?_
      case h15_66=>(intro w q;obtain ⟨c2',g'⟩:=PR4.out w q;go_simp;try with_reducible rfl)
      refine layy ?_;refine' tkY 16 rfl ?h16_67 ?_
      case h16_67=>(intro w q;obtain ⟨c2',g'⟩:=PR4.out w q;go_simp;try with_reducible rfl)
      refine layy ?_;refine' tkY 17 rfl ?h17_68 ?_
      case h17_68=>(intro w q;obtain ⟨c2',g'⟩:=PR4.out w q;go_simp;try with_reducible rfl)
      refine layy ?_;refine' tkY 18 rfl ?h18_69 ?_
      case h18_69=>(intro w q;obtain ⟨c2',g'⟩:=PR4.out w q;go_simp;try with_reducible rfl)
      refine layy ?_;refine' tkY 19 rfl ?h19_70 ?_
      case h19_70=>(intro w q;obtain ⟨c2',g'⟩:=PR4.out w q;go_simp;try with_reducible rfl)
      refine layy ?_;refine wpAnyX_done (by kernel_rfl) ?_;intro w5 _ Ew5;simp only [List.drop_succ_cons,List.drop_zero];clear c2 z1 z2 g k1 k2 k3 k4 k5;have N5:=Lib.hid (N4.out.ext Ew5);obtain ⟨y1,hy1⟩:=rd_get (l:=W) (j:=r) (by rw [E0.out];exact b1);obtain ⟨y2,hy2⟩:=rd_get (l:=W) (j:=r+3) (by rw [E0.out];exact b2);have g1:=N5.out.words.get hy1;have g2:=N5.out.words.get hy2;have f1:=N5.out.words.froz r;have f2:=N5.out.words.froz (r+3);have z2:=N5.out.words.lt;have HB:=N5.out.words.bound HX.out;have hb1:=HB.1;have hb2:=HB.2;clear hy1 hy2 HB;have N6:=Lib.hid ((N5.out.set EW1.out (by omega) (by omega)).set EW2.out hb1 hb2);go_upto_region 9 with (fail)
      refine Now.cut N6.out ?_;clear N6 N5 N4 g1 g2 f1 f2 z2;intro w6 N6';have N6:=Lib.hid N6';clear N6' Ew5;have F6:=HF.out.but N6.out.but FAR.out;obtain ⟨w7,hcp,N7',-⟩:=N6.out.copied F6 h0 EW3.out LCK.out;have hcp':=fun ty=>hcp (n-(r+4)) (d.cap-(r+4)) ty (by omega)
      have N7:=Lib.hid N7';have c2:=N6.out.len E2.out;have z1:=N6.out.lt;clear hcp N7' F6;go_upto_region 10 with (fail)
      clear hcp' c2 z1 N6;have c2:=N7.out.len E3.out;have c3:=N7.out.c3;have z1:=N7.out.lt;refine wp_region_any (by kernel_rfl) ?_;refine' tkA 9 rfl ?hy9_71 ?_
      case hy9_71=>(intro w;go_simp;try with_reducible rfl)
      refine layy ?_;have PR5:=Lib.hid (fun (ww:World) (hSw:Ext w7 ww)=>And.intro ((hSw.cell z1 2).trans c2) ((hSw.cell z1 3).trans c3));refine wpAny_to_X (S:=fun W=>Ext w7 W) (R:=Ext) 11 10 Ext.refl ?_ ?_ (by rfl)
      · exact Ext.drew exx
      refine' tkY 0 rfl ?h0_72 ?_
      case h0_72=>(intro w q;obtain ⟨c2',c3'⟩:=PR5.out w q;go_simp;try with_reducible rfl)
      refine layy ?_;refine' tkY 1 rfl ?h1_73 ?_
      case h1_73=>(intro w q;obtain ⟨c2',c3'⟩:=PR5.out w q;go_simp;try with_reducible rfl)
      refine layy ?_;refine' tkY 2 rfl ?h2_74 ?_
      case h2_74=>(intro w q;obtain ⟨c2',c3'⟩:=PR5.out w q;go_simp;try with_reducible rfl)
      refine layy ?_;refine' tkY 3 rfl ?h3_75 ?_
      case h3_75=>(intro w q;obtain ⟨c2',c3'⟩:=PR5.out w q;go_simp;try with_reducible rfl)
      refine layy ?_;refine' tkY 4 rfl ?h4_76 ?_
      case h4_76=>(intro w q;obtain ⟨c2',c3'⟩:=PR5.out w q;go_simp;try with_reducible rfl)
      refine layy ?_;refine' tkY 5 rfl ?h5_77 ?_
      case h5_77=>(intro w q;obtain ⟨c2',c3'⟩:=PR5.out w q;go_simp;try with_reducible rfl)
      refine layy ?_;refine' tkY 6 rfl ?h6_78 ?_
      case h6_78=>(intro w q;obtain ⟨c2',c3'⟩:=PR5.out w q;go_simp;try with_reducible rfl)
      refine layy ?_;refine' tkY 7 rfl ?h7_79 ?_
      case h7_79=>(intro w q;obtain ⟨c2',c3'⟩:=PR5.out w q;go_simp;try with_reducible rfl)
      refine layy ?_;refine' tkY 8 rfl ?h8_80 ?_
      case h8_80=>(intro w q;obtain ⟨c2',c3'⟩:=PR5.out w q;go_simp;try with_reducible rfl)
      refine layy ?_;refine' tkY 10 rfl ?h10_81 ?_
      case h10_81=>(intro w q;obtain ⟨c2',c3'⟩:=PR5.out w q;go_simp;try with_reducible rfl)
      refine layy ?_;refine wpAnyX_done (by kernel_rfl) ?_;intro w8 _ Ew8;simp only [List.drop_succ_cons,List.drop_zero];clear c2 c3 z1;have N8:=Lib.hid (N7.out.ext Ew8);obtain ⟨y1,hy1⟩:=rd_get (l:=W3) (j:=head) (by rw [E3.out];exact b0);have g1:=N8.out.words.get hy1;have f1:=N8.out.words.froz head;have N9:=Lib.hid (N8.out.set EW4.out (by omega) (by omega));have hb1:∀ a' ∈ Hp.Hs.insert r S.taken,a' < n:=fun a' ha'=>by
       rcases (mem_ins r a' S.taken).1 ha' with rfl | h'
       · omega
       · have:=N9.out.below a' h';rw [E4.out] at this;exact this
      obtain ⟨v0,st,x1,x2,hm1,-,hm2,hm3,hm4⟩:=N9.out.map.enter (t:=102) Tryz.underlying3 Tryz.underlying4 Tryz.underlying102 (fun u=>Tryz.zeroValue4 u) (by have:=N9.out.taken_len;have:=N9.out.small;unfold maxLen;omega) (a:=r) (by omega);unfold goInt at hm1 hm2;have N10:=Lib.hid (N9.out.mapped hm4 hm3 (fun a' ha'=>by rw [E4.out];exact hb1 a' ha'));clear hb1 hm3 hm4 hy1;go_upto_region 11 with (fail)
      clear hm1 hm2 g1 f1 N9 N8 N7 Ew8;obtain ⟨t',ht',hkq⟩:=kids_some HKS.out;have HT':=Lib.hid ht';have HKQ:=Lib.hid hkq;clear ht' hkq;have K10:=Lib.hid (kids_at N10.out.toHAt HT'.out HKS.out)
      go_wp2_with (go_at_call 80;refine (kids_any N10.out.toHAt HT'.out HKS.out).mono ?_;rintro e w1 ⟨rfl,hb1⟩;obtain ⟨hc1,hf1,hs1⟩:=hb1.cells)
      have N11:=Lib.hid (N10.out.ext hb1);generalize hpk:kp d r t'=pk;have HPK:=Lib.hid hpk;have hb4':=HKQ.out;have hks:ks.length ≤ 1000000:=by
       rcases hb4' with ⟨_,rfl⟩ | ⟨_,hf'⟩
       · simp
       · obtain ⟨_,q,_,_,h4,h5,_⟩:=fields_some hf';have:=N10.out.small;simp only at h5 this;omega
      clear hpk N10 K10 hb1 hc1 hf1 hs1 hb4'
      go_loopg [81] ks.length (fun g i wr=>∃ (j:Nat) (V:List Int),j ≤ ks.length ∧ ks.length-j ≤ g ∧ i = .int .i64 j ∧ Hid (Now w wr d { S with words:=V,taken:=Hp.Hs.insert r S.taken }) ∧ Hid (Hp.Hs.use 1 (ks.length-j) (r+4+j) V=some W5) ∧ Hid (V.length=n))
      case atStart=>exact ⟨0,W4,Nat.zero_le _,by omega,rfl,N11,EW5,E4⟩
      case round=>
       obtain ⟨j,V,hj,hg,rfl,NV,HU,HV⟩:=hrel;clear N11
       by_cases hlt:j < ks.length
       · obtain rfl:pk=some ⟨d.gw,r+4,none⟩:=by
           rw [← HPK.out]
           rcases HKQ.out with ⟨_,rfl⟩ | ⟨he,_⟩
           · simp at hlt
           · simp [kp,he]
         have hu:=HU.out;rw [show ks.length-j=(ks.length-(j+1))+1 by omega] at hu;obtain ⟨kid,v,V1,h1,h2,h3,h4⟩:=use_succ hu;obtain ⟨h2,v1,v2⟩:=rc_some h2;have g1:=NV.out.words.get (ra_some h1);have g2:=NV.out.words.get h2;have f1:=NV.out.words.froz (kid+1);have c2:=NV.out.len HV.out;have l2:=rd_lt h2;rw [HV.out] at l2;have NV1:=Lib.hid (NV.out.set h3 (by omega) (by omega));have HV1:=Lib.hid ((HAt.wr_len h3).1.trans HV.out);have HU1:=Lib.hid h4;clear hu h1 h2 h3 h4 NV HU HV
         go_wp2_with fail
         go_roundg (ks.length-(j+1))
         case measure=>omega
         case rel=>exact ⟨j+1,V1,by omega,Nat.le_refl _,by go_num,NV1,HU1,HV1⟩
       · have:j=ks.length:=by omega
         subst this;have hu:=HU.out;rw [Nat.sub_self] at hu;obtain rfl:V=W5:=by simpa [Hp.Hs.use] using hu
         clear hu HU EW5
         go_wp2_with fail
         go_returns;exact NV.out.done
def err8 (a:Nat):Int:=if a=0 then 8 else 0
theorem full_any (a:Nat) (w:World):Calls Tryz.prog 106 #[.int .i64 a] w fun e w'=>e = .returned (.tuple #[.int .i64 a,.int .i64 (err8 a)]) ∧ Ext w w':=by
 by_cases h:a=0
 · subst h;go_enter Tryz.func106,Tryz.ntmps106;go_wp2
   go_ret2
   exact ⟨rfl,exx⟩
 · have t0:((a:Int) == 0)=false:=by simpa using h
   have e:err8 a=0:=if_neg h;rw [e];clear h e;go_enter Tryz.func106,Tryz.ntmps106;go_wp2
   go_ret2
   exact ⟨rfl,exx⟩
theorem isMade_nil (w:World):Calls Tryz.prog 72 #[.pointer none] w fun e w'=>e = .returned (.bool false) ∧ Ext w w':=by
 go_enter Tryz.func72,Tryz.ntmps72
 go_wp2
 go_returns
 exact ⟨rfl,exx⟩
theorem isMade_yes {w:World} {d:Hd} {S:Hp.Hs} (h:HAt w d S):Calls Tryz.prog 72 #[.pointer (some ⟨d.hb,0,none⟩)] w fun e w'=>e = .returned (.bool true) ∧ Ext w w':=by
 have c2:=h.c2
 clear h
 go_enter Tryz.func72,Tryz.ntmps72
 go_wp2
 go_returns
 exact ⟨rfl,exx⟩
theorem isMade_bare {w:World} {g:Nat} (c2:w.cell? ⟨g,2,none⟩=some (.slice none 0 0)):Calls Tryz.prog 72 #[.pointer (some ⟨g,0,none⟩)] w fun e w'=>e = .returned (.bool false) ∧ Ext w w':=by
 go_enter Tryz.func72,Tryz.ntmps72
 go_wp2
 go_returns
 exact ⟨rfl,exx⟩
theorem has_lit (S:Hp.Hs) (x:Int):hasLit S.taken (.int .i64 x)=S.has x:=rfl
theorem open_nil (a:Int) (w:World):Calls Tryz.prog 77 #[.pointer none,.int .i64 a] w fun e w'=>e = .returned (.int .i64 1) ∧ Ext w w':=by
 go_enter Tryz.func77,Tryz.ntmps77
 go_wp2_with (go_at_call 72;refine (isMade_nil _).mono ?_;rintro e w1 ⟨rfl,hb1⟩;obtain ⟨hc1,hf1,hs1⟩:=hb1.cells)
 go_returns
 exact ⟨rfl,exx⟩
theorem open_bare {g:Nat} {w:World} (c2:w.cell? ⟨g,2,none⟩=some (.slice none 0 0)) (a:Int):Calls Tryz.prog 77 #[.pointer (some ⟨g,0,none⟩),.int .i64 a] w fun e w'=>e = .returned (.int .i64 1) ∧ Ext w w':=by
 go_enter Tryz.func77,Tryz.ntmps77
 go_wp2_with (go_at_call 72;refine (isMade_bare c2).mono ?_;rintro e w1 ⟨rfl,hb1⟩;obtain ⟨hc1,hf1,hs1⟩:=hb1.cells)
 go_returns
 exact ⟨rfl,exx⟩
theorem run_look {w:World} {d:Hd} {S:Hp.Hs} (h:HAt w d S) {x:Int} {b:Bool} (hb:S.has x=b) (h1 : -9223372036854775808 ≤ x) (h2:x ≤ 9223372036854775807) :
    (Instr.lookup 102 (.map (some d.gm)) (.int .i64 x) false).run Tryz.prog w = .ok (.bool b) w:=by
  rw [← hb,← has_lit];exact h.map.look Tryz.underlying3 Tryz.underlying4 Tryz.underlying102 (Tryz.zeroValue4 w) h1 h2
theorem isTaken_any {w:World} {d:Hd} {S:Hp.Hs} (h:HAt w d S) {x:Int} {b:Bool} (hb:S.has x=b) (h1 : -9223372036854775808 ≤ x) (h2:x ≤ 9223372036854775807) :
    Calls Tryz.prog 128 #[.pointer (some ⟨d.hb,0,none⟩),.int .i64 x] w fun e w'=>e = .returned (.bool b) ∧ Ext w w':=by
  have hl:=run_look h hb h1 h2;have c3:=h.c3;clear h hb;go_enter Tryz.func128,Tryz.ntmps128;go_wp2;go_returns;exact ⟨rfl,exx⟩
theorem open_yes {w:World} {d:Hd} {S:Hp.Hs} (h:HAt w d S) {x:Int} (hb:S.has x=true) (h1 : -9223372036854775808 ≤ x) (h2:x ≤ 9223372036854775807) :
    Calls Tryz.prog 77 #[.pointer (some ⟨d.hb,0,none⟩),.int .i64 x] w fun e w'=>e = .returned (.int .i64 0) ∧ Ext w w':=by
  have H:=Lib.hid h;have HB:=Lib.hid hb;clear h hb;go_enter Tryz.func77,Tryz.ntmps77
  go_wp2_with (go_at_call 72;refine (isMade_yes H.out).mono ?_;rintro e w1 ⟨rfl,hb1⟩;obtain ⟨hc1,hf1,hs1⟩:=hb1.cells;have c3:=(H.out.ext hb1).c3;have hl:=run_look (H.out.ext hb1) HB.out h1 h2)
  go_returns;exact ⟨rfl,exx⟩
theorem open_no {w:World} {d:Hd} {S:Hp.Hs} (h:HAt w d S) {x:Int} (hb:S.has x=false) (h1 : -9223372036854775808 ≤ x) (h2:x ≤ 9223372036854775807) :
    Calls Tryz.prog 77 #[.pointer (some ⟨d.hb,0,none⟩),.int .i64 x] w fun e w'=>e = .returned (.int .i64 7) ∧ Ext w w':=by
  have H:=Lib.hid h;have HB:=Lib.hid hb;clear h hb;go_enter Tryz.func77,Tryz.ntmps77
  go_wp2_with (go_at_call 72;refine (isMade_yes H.out).mono ?_;rintro e w1 ⟨rfl,hb1⟩;obtain ⟨hc1,hf1,hs1⟩:=hb1.cells;have c3:=(H.out.ext hb1).c3;have hl:=run_look (H.out.ext hb1) HB.out h1 h2)
  go_returns;exact ⟨rfl,exx⟩
theorem Hold_nil (a:Int) (w:World):Calls Tryz.prog 53 #[.pointer none,.int .i64 a] w fun e w'=>e = .returned (.int .i64 1) ∧ Ext w w':=by
 go_enter Tryz.func53,Tryz.ntmps53
 go_wp2_with (go_at_call 77;refine (open_nil a _).mono ?_;rintro e w1 ⟨rfl,hb1⟩;obtain ⟨hc1,hf1,hs1⟩:=hb1.cells)
 go_returns
 exact ⟨rfl,exx⟩
theorem Hold_any {w:World} {d:Hd} {S S':Hp.Hs} {x e0:Int} (h:HAt w d S) (hr:S.hold x=some (e0,S')) (h1 : -9223372036854775808 ≤ x) (h2:x ≤ 9223372036854775807) :
    Calls Tryz.prog 53 #[.pointer (some ⟨d.hb,0,none⟩),.int .i64 x] w (Turned d w (.int .i64 e0) S'):=by
  have H:=Lib.hid (Now.refl h);clear h;unfold Hp.Hs.hold at hr
  cases hb:S.has x with
  | false=>
   rw [if_pos hb] at hr;simp only [Option.some.injEq,Prod.mk.injEq] at hr;obtain ⟨rfl,rfl⟩:=hr;have HB:=Lib.hid hb;clear hb;go_enter Tryz.func53,Tryz.ntmps53
   go_wp2_with (go_at_call 77;refine (open_no H.out.toHAt HB.out h1 h2).mono ?_;rintro e w1 ⟨rfl,hb1⟩;obtain ⟨hc1,hf1,hs1⟩:=hb1.cells)
   go_returns;exact (H.out.ext hb1).done
  | true=>
   have hx0:0 ≤ x:=by
    unfold Hp.Hs.has at hb;simp at hb;exact hb.1
   obtain ⟨a,rfl⟩:=Int.eq_ofNat_of_zero_le hx0;have HB:=Lib.hid hb;rw [if_neg (by rw [hb];simp)] at hr;simp only [Option.bind_eq_bind,Option.bind_eq_some_iff,Option.pure_def,Option.some.injEq,Prod.mk.injEq,Int.toNat_natCast] at hr;obtain ⟨v,hv,W,hW,rfl,rfl⟩:=hr;obtain ⟨hv,v1,v2⟩:=rc_some hv;have hl:=rd_lt hv;have HV:=Lib.hid hv;have HW:=Lib.hid hW;have sm:=H.out.small;clear hb hv hW hx0 h1 h2;go_enter Tryz.func53,Tryz.ntmps53
   go_wp2_with (go_at_call 77;refine (open_yes H.out.toHAt HB.out (by omega) (by omega)).mono ?_;rintro e w1 ⟨rfl,hb1⟩;obtain ⟨hc1,hf1,hs1⟩:=hb1.cells;have N1:=Lib.hid (H.out.ext hb1);have c2:=N1.out.c2;have g:=N1.out.words.get HV.out;have f:=N1.out.words.froz (a+2))
   go_returns;exact (N1.out.set HW.out (by omega) (by omega)).done
theorem Drop_any {w:World} {d:Hd} {S S':Hp.Hs} {x e0:Int} (h:HAt w d S) (hr:S.drop x=some (e0,S')) (h1 : -9223372036854775808 ≤ x) (h2:x ≤ 9223372036854775807) :
    Calls Tryz.prog 46 #[.pointer (some ⟨d.hb,0,none⟩),.int .i64 x] w (Turned d w (.int .i64 e0) S'):=by
  have H:=Lib.hid (Now.refl h);clear h;unfold Hp.Hs.drop at hr
  cases hb:S.has x with
  | false=>
   rw [if_pos hb] at hr;simp only [Option.some.injEq,Prod.mk.injEq] at hr;obtain ⟨rfl,rfl⟩:=hr;have HB:=Lib.hid hb;clear hb;go_enter Tryz.func46,Tryz.ntmps46
   go_wp2_with (go_at_call 77;refine (open_no H.out.toHAt HB.out h1 h2).mono ?_;rintro e w1 ⟨rfl,hb1⟩;obtain ⟨hc1,hf1,hs1⟩:=hb1.cells)
   go_returns;exact (H.out.ext hb1).done
  | true=>
   have hx0:0 ≤ x:=by
    unfold Hp.Hs.has at hb;simp at hb;exact hb.1
   obtain ⟨a,rfl⟩:=Int.eq_ofNat_of_zero_le hx0;have HB:=Lib.hid hb;rw [if_neg (by rw [hb];simp)] at hr;simp only [Option.bind_eq_bind,Option.bind_eq_some_iff,Int.toNat_natCast] at hr;obtain ⟨v,hv,hr⟩:=hr;obtain ⟨hv,v1,v2⟩:=rc_some hv;have hl:=rd_lt hv;have HV:=Lib.hid hv;have sm:=H.out.small;clear hb hv hx0 h1 h2
   by_cases h0:v=0
   · rw [if_pos h0] at hr;simp only [Option.some.injEq,Prod.mk.injEq] at hr;obtain ⟨rfl,rfl⟩:=hr;subst h0;go_enter Tryz.func46,Tryz.ntmps46
     go_wp2_with (go_at_call 77;refine (open_yes H.out.toHAt HB.out (by omega) (by omega)).mono ?_;rintro e w1 ⟨rfl,hb1⟩;obtain ⟨hc1,hf1,hs1⟩:=hb1.cells;have N1:=Lib.hid (H.out.ext hb1);have c2:=N1.out.c2;have g:=N1.out.words.get HV.out;have f:=N1.out.words.froz (a+2))
     go_returns;exact N1.out.done
   · rw [if_neg h0] at hr;simp only [Option.bind_eq_some_iff,Option.pure_def,Option.some.injEq,Prod.mk.injEq] at hr;obtain ⟨W,hW,rfl,rfl⟩:=hr;have HW:=Lib.hid hW;have t0:(v == 0)=false:=by simpa using h0
     clear hW h0;go_enter Tryz.func46,Tryz.ntmps46
     go_wp2_with (go_at_call 77;refine (open_yes H.out.toHAt HB.out (by omega) (by omega)).mono ?_;rintro e w1 ⟨rfl,hb1⟩;obtain ⟨hc1,hf1,hs1⟩:=hb1.cells;have N1:=Lib.hid (H.out.ext hb1);have c2:=N1.out.c2;have g:=N1.out.words.get HV.out;have f:=N1.out.words.froz (a+2))
     go_returns;exact (N1.out.set HW.out (by omega) (by omega)).done
def Says (w:World) (g:Nat) (first cap:Array Value) (l:List Int) (q:Int → Bool):Prop:=
 ∀ (j:Nat) (x:Int),Hp.rd l j=some x → (∀ i y,i < j → Hp.rd l i=some y → q y=false) → ∀ W,Ext w W → Calls Tryz.prog g (first ++ #[.int .i64 x] ++ cap) W fun e w'=>e = .returned (.bool (q x)) ∧ Ext W w'
def firstAt (q:Int → Bool) (l:List Int):Int:=match l.findIdx? q with | some i=>i | none=>-1
theorem firstAt_hit {l:List Int} {q:Int → Bool} {x:Int} {k:Nat} (hk:Hp.rd l k=some x) (hq:q x=true) (h:∀ i y,i < k → Hp.rd l i=some y → q y=false):firstAt q l=k:=by
 have e:l.findIdx? q=some k:=by
  rw [List.findIdx?_eq_some_iff_getElem];unfold Hp.rd at hk h;obtain ⟨hl,he⟩:=List.getElem?_eq_some_iff.1 hk;exact ⟨hl,by rw [he];exact hq,fun j hj=>by rw [h j _ hj (List.getElem?_eq_getElem (by omega))];simp⟩
 simp [firstAt,e]
theorem firstAt_miss {l:List Int} {q:Int → Bool} (h:∀ i y,i < l.length → Hp.rd l i=some y → q y=false):firstAt q l = -1:=by
 have e:l.findIdx? q=none:=by
  rw [List.findIdx?_eq_none_iff];intro y hy;obtain ⟨j,hj,rfl⟩:=List.getElem_of_mem hy;exact h j _ hj (List.getElem?_eq_getElem hj)
 simp [firstAt,e]
theorem firstAt_any (q:Int → Bool) (l:List Int):decide (0 ≤ firstAt q l)=l.any q:=by
 unfold firstAt
 cases h:l.findIdx? q with
 | none=>
  have:=List.findIdx?_eq_none_iff.1 h;simp only [show ¬ (0:Int) ≤ -1 by omega,decide_false]
  symm
  rw [List.any_eq_false];intro x hx;rw [this x hx];simp
 | some i=>
  obtain ⟨hl,hq,_⟩:=List.findIdx?_eq_some_iff_getElem.1 h;simp only [Int.natCast_nonneg,decide_true]
  symm
  rw [List.any_eq_true];exact ⟨l[i],List.getElem_mem _,hq⟩
set_option maxHeartbeats 2000000 in
theorem sIndexFunc_any {w:World} {p:Option Addr} {c g:Nat} {cap:Array Value} {l:List Int} {q:Int → Bool} (eg:∀ args w,(callFunc g args).run Tryz.prog w = .ok (.enter g args) w) (h:SliceAt w p c l) (hs:Says w g #[] cap l q) :
    Calls Tryz.prog 186 #[.slice p l.length c,.func (.func g) #[] cap] w fun e w'=>e = .returned (.int .i64 (firstAt q l)) ∧ Ext w w':=by
  have hle:=h.le;have hcap:=h.cap;have H:=Lib.hid h;have HS:=Lib.hid hs;clear h hs;generalize hL:l.length=n at hle ⊢;have HL:=Lib.hid hL;clear hL;go_enter Tryz.func186,Tryz.ntmps186;go_wp2
  go_loopg [8] n (fun gg s8 wr=>∃ kk:Nat,kk ≤ n ∧ n-kk ≤ gg ∧ s8 = .int .i64 kk ∧ Aside (Ext w wr) ∧ Aside (∀ i y,i < kk → Hp.rd l i=some y → q y=false))
  case atStart=>exact ⟨0,Nat.zero_le _,by omega,rfl,Ext.refl w,fun i y hi=>absurd hi (Nat.not_lt_zero _)⟩
  case round=>
   obtain ⟨kk,hkk,hg,rfl,E,A⟩:=hrel
   by_cases hlt:kk < n
   · obtain ⟨x,hx⟩:=rd_get (l:=l) (j:=kk) (by rw [HL.out];exact hlt);obtain ⟨b,o,rfl,hb,hc⟩:=(H.out.ext E.out).cells (by rw [HL.out];omega);have g1:=hc kk x hx;have hcall:=Lib.hid (HS.out kk x hx A.out wr E.out);have HX:=Lib.hid hx;clear hc hx
     cases hq:q x with
     | true=>
      have HQ:=Lib.hid hq;clear hq
      go_wp2_with (go_at_fn g;refine (Calls.mono hcall.out ?_);rintro e w' ⟨rfl,hb'⟩;rw [HQ.out])
      go_returns;exact ⟨by rw [firstAt_hit HX.out HQ.out A.out];rfl,E.out.trans hb'⟩
     | false=>
      have HQ:=Lib.hid hq;clear hq
      go_wp2_with (go_at_fn g;refine (Calls.mono hcall.out ?_);rintro e w' ⟨rfl,hb'⟩;rw [HQ.out])
      go_roundg (n-(kk+1))
      case measure=>omega
      case rel=>
       refine ⟨kk+1,by omega,by omega,by go_num,(show Aside _ from E.out.trans hb'),(show Aside _ from fun i y hi hy=>?_)⟩
       by_cases e:i=kk
       · subst e;have:=HX.out;rw [hy] at this
         cases this
         exact HQ.out
       · exact A.out i y (by omega) hy
   · have:kk=n:=by omega
     subst this;go_wp2;go_returns;exact ⟨by rw [firstAt_miss (by rw [HL.out];exact A.out)];rfl,E.out⟩
theorem sContainsFunc_any {w:World} {p:Option Addr} {c g:Nat} {cap:Array Value} {l:List Int} {q:Int → Bool} {b:Bool} (eg:∀ args w,(callFunc g args).run Tryz.prog w = .ok (.enter g args) w) (h:SliceAt w p c l) (hs:Says w g #[] cap l q) (hb:l.any q=b) :
    Calls Tryz.prog 167 #[.slice p l.length c,.func (.func g) #[] cap] w fun e w'=>e = .returned (.bool b) ∧ Ext w w':=by
  rw [← firstAt_any] at hb;have H:=Lib.hid h;have HS:=Lib.hid hs;have EG:=Lib.hid eg;clear h hs eg;subst hb;go_enter Tryz.func167,Tryz.ntmps167
  go_wp2_with (go_at_call 186;refine (sIndexFunc_any EG.out H.out HS.out).mono ?_;rintro e w1 ⟨rfl,hb1⟩;obtain ⟨hc1,hf1,hs1⟩:=hb1.cells)
  go_returns;exact ⟨rfl,exx⟩
theorem every1_any {w:World} {bx g:Nat} {first cap:Array Value} {x:Int} {b:Bool} (eg:∀ args w,(callFunc g args).run Tryz.prog w = .ok (.enter g args) w) (hc:w.cell? ⟨bx,0,none⟩=some (.func (.func g) first cap))
    (hs:Calls Tryz.prog g (first ++ #[.int .i64 x] ++ cap) w fun e w'=>e = .returned (.bool b) ∧ Ext w w') :
    Calls Tryz.prog 168 #[.int .i64 x,.pointer (some ⟨bx,0,none⟩)] w fun e w'=>e = .returned (.bool (!b)) ∧ Ext w w':=by
  have HS:=Lib.hid hs;clear hs;go_enter Tryz.func168,Tryz.ntmps168
  go_wp2_with (go_at_fn g;refine (Calls.mono HS.out ?_);rintro e w' ⟨rfl,hb'⟩)
  go_returns;exact ⟨rfl,hb'⟩
def SaysAll (w:World) (g:Nat) (first cap:Array Value) (l:List Int) (is:Int → Bool):Prop:=
 ∀ (j:Nat) (x:Int),Hp.rd l j=some x → (∀ i y,i < j → Hp.rd l i=some y → is y=true) → ∀ W,Ext w W → Calls Tryz.prog g (first ++ #[.int .i64 x] ++ cap) W fun e w'=>e = .returned (.bool (is x)) ∧ Ext W w'
theorem SliceAt.lt {w w':World} {p:Option Addr} {c:Nat} {l:List Int} (h:SliceAt w p c l) (o:Obj):SliceAt (w.alloc o) p c l:=h.ext (Ext.alloc (Ext.refl w) o)
theorem all_any (l:List Int) (is:Int → Bool):l.all is = !(l.any fun x=>!is x):=by
 induction l with
 | nil=>rfl
 | cons a r ih=>simp [List.all_cons,List.any_cons,ih]
theorem every_any {w:World} {p:Option Addr} {c g:Nat} {first cap:Array Value} {l:List Int} {is:Int → Bool} {b:Bool} (eg:∀ args w,(callFunc g args).run Tryz.prog w = .ok (.enter g args) w) (h:SliceAt w p c l) (hs:SaysAll w g first cap l is) (hb:l.all is=b) :
    Calls Tryz.prog 124 #[.slice p l.length c,.func (.func g) first cap] w fun e w'=>e = .returned (.bool b) ∧ Ext w w':=by
  rw [all_any] at hb;have key:∀ t,Says (w.alloc (.cells #[.func (.func g) first cap] t)) 168 #[] #[.pointer (some ⟨w.heap.size,0,none⟩)] l (fun x=>!is x):=by
   intro t j x hx hall W hW;have hlt:w.heap.size < (w.alloc (.cells #[.func (.func g) first cap] t)).heap.size:=by simp
   have hc:W.cell? ⟨w.heap.size,0,none⟩=some (.func (.func g) first cap):=by
    rw [hW.cell hlt 0];have:=World.cell?_alloc_mark w #[.func (.func g) first cap] t (0,0) 0;rw [this];rfl
   have:=every1_any eg hc (hs j x hx (fun i y hi hy=>by simpa using hall i y hi hy) W ((Ext.alloc (Ext.refl w) _).trans hW))
   simpa using this
  have H:=Lib.hid h;have K:=Lib.hid key;clear h hs eg key;subst hb;go_enter Tryz.func124,Tryz.ntmps124
  go_wp2_with (go_at_call 167;refine (sContainsFunc_any (b:=l.any fun x=>!is x) (enters_of Tryz.func168 (by kernel_rfl) rfl) (H.out.ext (Ext.alloc (Ext.refl w) _)) (K.out _) rfl).mono ?_;rintro e w1 ⟨rfl,hb1⟩;obtain ⟨hc1,hf1,hs1⟩:=hb1.cells)
  go_returns;exact ⟨rfl,exx⟩
theorem alike1_any {w:World} {bx c:Nat} {p:Option Addr} {x y:Int} {l:List Int} (hc:w.cell? ⟨bx,0,none⟩=some (.slice p l.length c)) (h:SliceAt w p c l) (hy:Hp.rd l 0=some y) :
    Calls Tryz.prog 159 #[.int .i64 x,.pointer (some ⟨bx,0,none⟩)] w fun e w'=>e = .returned (.bool (x == y)) ∧ Ext w w':=by
  obtain ⟨b,o,rfl,hb,hx⟩:=h.cells (by have:=rd_lt hy;omega);have g:=hx 0 y hy;have h0:=rd_lt hy;have hcap:=h.cap;have hle:=h.le;clear h hx hy;generalize l.length=n at *;simp only [Nat.add_zero] at g;go_enter Tryz.func159,Tryz.ntmps159;go_wp2;go_returns;exact ⟨rfl,exx⟩
theorem alike_eq {l:List Int} {y:Int} (hy:Hp.rd l 0=some y):l.all (fun x=>x == y)=Hp.Hs.alike l:=by
 cases l with
 | nil=>cases hy
 | cons a r=>
  have:a=y:=by simpa [Hp.rd] using hy
  subst this;rfl
theorem alike_any {w:World} {p:Option Addr} {c:Nat} {l:List Int} {b:Bool} (h:SliceAt w p c l) (h0:0 < l.length) (hb:Hp.Hs.alike l=b) :
    Calls Tryz.prog 109 #[.slice p l.length c] w fun e w'=>e = .returned (.bool b) ∧ Ext w w':=by
  obtain ⟨y,hy⟩:=rd_get h0;rw [← alike_eq hy] at hb;have key:∀ t,SaysAll (w.alloc (.cells #[.slice p l.length c] t)) 159 #[] #[.pointer (some ⟨w.heap.size,0,none⟩)] l (fun x=>x == y):=by
   intro t j x hx _ W hW;have hlt:w.heap.size < (w.alloc (.cells #[.slice p l.length c] t)).heap.size:=by simp
   have hc:W.cell? ⟨w.heap.size,0,none⟩=some (.slice p l.length c):=by
    rw [hW.cell hlt 0];have:=World.cell?_alloc_mark w #[.slice p l.length c] t (0,0) 0;rw [this];rfl
   have:=alike1_any (x:=x) hc (h.ext ((Ext.alloc (Ext.refl w) _).trans hW)) hy
   simpa using this
  have H:=Lib.hid h;have K:=Lib.hid key;have HB:=Lib.hid hb;clear h key hy hb;go_enter Tryz.func109,Tryz.ntmps109
  go_wp2_with (go_at_call 124;refine (every_any (enters_of Tryz.func159 (by kernel_rfl) rfl) (H.out.ext (Ext.alloc (Ext.refl w) _)) (K.out _) HB.out).mono ?_;rintro e w1 ⟨rfl,hb1⟩;obtain ⟨hc1,hf1,hs1⟩:=hb1.cells)
  go_returns;exact ⟨rfl,exx⟩
namespace Hp.Hs
def moves (S:Hs):List Nat → List Int → Nat → List (Nat × Int) → Option (List Int × Nat × List (Nat × Int))
 | [],W,next,M=>some (W,next,M)
 | a :: r,W,next,M=>do
  let wide ← S.wideAt a
  let W ← lay W next (← sub S.words a wide)
  moves S r W (next+wide) (putI a (next:Int) M)
def rekid (S:Hs) (M:List (Nat × Int)) (tt:Nat):Nat → Nat → List Int → Option (List Int)
 | 0,_,W=>some W
 | n+1,j,W=>do
  let k ← ra W (tt+4+j)
  let ks ← Hs.kids { S with words:=W } tt
  if j < ks.length then rekid S M tt n (j+1) (← wr W (tt+4+j) ((getI k M).getD 0)) else none
def rechain (M:List (Nat × Int)):Hs → List Nat → Option Hs
 | S,[]=>some S
 | S,a :: r=>do
  let tt ← adr ((getI a M).getD 0)
  if S.words.length ≤ tt then none else
  let S:={ S with taken:=insert tt S.taken }
  let W ← rekid S M tt (← S.kids tt).length 0 S.words
  let S:={ S with words:=W }
  let head ← chain (← S.tag tt) (← S.fields tt)
  let x ← rd S.words head
  let W ← wr (← wr S.words (tt+3) x) head tt
  rechain M { S with words:=W } r
def moved (S:Hs):Option (List (Nat × Int) × Hs):=do
 let (W,next,M) ← moves S S.taken (List.replicate S.words.length 0) 17 []
 let S1 ← rechain M { S with words:=W,taken:=[] } S.taken
 if next < W.length then
  return (M,{ S1 with words:=(← wr (← wr S1.words 16 next) (next+1) (W.length-next)) })
 else some (M,S1)
def compacted (S:Hs):Option (List Int × Hs):=do
 let (_,S1) ← S.collect
 let (M,S2) ← S1.moved
 some (M.flatMap (fun p=>if p.2 ≠ p.1 then [(p.1:Int),p.2] else []),S2)
end Hp.Hs
open Go.RowKit Go.Maps Go.WideElems Go.ChangeMaps
namespace MapAt
variable {P:Program} {w:World} {g:Nat} {T:List Nat} {t:TypeId}
theorem clear (h:MapAt P w g T) (ht:P.underlying t=some (.map 3 4)) (ty:TypeId) :
    ∃ w',(Builtin.clear_ #[t] ty #[.map (some g)]).run P w = .ok (.tuple #[]) w' ∧ MapAt P w' g [] ∧ w.mapTurned w' g:=by
  obtain ⟨es,clock,hb,F,hs,hD⟩:=h.owns;refine ⟨setBlock w g (.map #[] clock), ?_,⟨⟨#[],clock,heap_setBlock_same hb _,⟨by simp,MapKept.stamped_empty _,by simp⟩,by simp,by simp [mapOf]⟩,List.Pairwise.nil⟩,⟨es,clock,#[],clock,hb,rfl⟩⟩;simp [Builtin.clear_,run_underlying ht,MapKept.run_getObj_map hb,MapKept.run_setObj_map _ hb,Result.andThen,setBlock]
end MapAt
end Go.Proofs.YtdokmmhjmclmnaaGreat
