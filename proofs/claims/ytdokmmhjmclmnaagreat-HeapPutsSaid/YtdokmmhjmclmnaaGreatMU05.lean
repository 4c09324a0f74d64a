/- Part 5 of a proof. -/
import Derived.Test.YtdokmmhjmclmnaaGreatMU04
set_option linter.unusedSimpArgs false
set_option linter.unusedVariables false
set_option linter.unusedSectionVars false
set_option linter.unnecessarySimpa false
set_option maxHeartbeats 4000000
namespace Go.Proofs.YtdokmmhjmclmnaaGreat
open Go.Proofs.Tryz
variable {W' w w' w0 wb:World} {B a b bx c ca cap ce cn f g i j k lb m n qc:Nat} {choice e t x:Int} {A W fs ks l o z:List Int} {D T Y:List Nat} {p p2 pa pe pn q:Option Addr} {d:Hd} {S S':Hp.Hs} {M:List (Nat × Int)}
open Go.RowKit Go.Maps
theorem At_end {n:Int} (h:HAt w d S) (hb:S.has a=true) (ht:S.tag a=some t) (he:Hp.B1a t=true) (hn:Hp.rd S.words (a+4)=some n) :
    Calls prog 22 #[.pointer (some ⟨d.hb,0,none⟩),.int .i64 a] w (Rt w (.tuple #[.agg #[.int .i64 (-1),.slice none 0 0],.agg #[.int .u8 (t-20),.int .i64 n],.int .i64 0])):=by
  have hk:Hp.wide S.sizes t=some 5:=by simp [Hp.wide,he]
  have hal:=G0a hn;have hfl:S.fields a=some [n]:=by
   unfold Hp.Hs.fields Hp.Hs.k9a;rw [ht];simp only [v9b,B5c,hk];unfold Hp.sub;rw [H5c (by omega)]
   congr 1
   unfold Hp.rd at hn;obtain ⟨hl,e⟩:=q5b.1 hn;rw [q8b hl];simp [e]
  have hte:20<=t/\t<=24:=by
   unfold Hp.B1a Hp.within at he
   simpa using he
  obtain ⟨te1,te2⟩:=hte;have q1:IntKind.i64.wrap (t-20)=t-20:=E4c _ (by omega);have q2:IntKind.u8.wrap (t-20)=t-20:=by
   have hh:t=20 \/ t=21 \/ t=22 \/ t=23 \/ t=24:=by omega
   rcases hh with rfl | rfl | rfl | rfl | rfl <;> rfl
  have sm:=h.small;have H:=hZ h;have HB:=hZ hb;have HT:=hZ ht;have HE:=hZ he;have HFL:=hZ hfl;have HN:=hZ hn;clear h hb ht he hk hfl hn;have mixed:prog.follows .mixedOrders=true:=by kernel_rfl
  go_enter func22,ntmps22
  go_upto_region 6 with (first
   | (go_at_call 77;refine m4_ (t1a (H.out.ext (exx)) HB.out (by omega) (by omega)) fun w1 hb1 hc1 hf1 hs1=>?_;obtain ⟨hz1_0,hc1_0,hf1_0⟩:=c3_ hb1 w.heap.size;obtain ⟨hz1_1,hc1_1,hf1_1⟩:=c3_ hb1 (w.heap.size+1))
   | (go_at_call 76;refine m4_ (F4a ((H.out.ext (exx)).ext hb1).c2 rfl H.out.le H.out.cap ((H.out.ext (exx)).ext hb1).words HT.out) fun w2 hb2 hc2 hf2 hs2=>?_;obtain ⟨hz2_0,hc2_0,hf2_0⟩:=c3_ hb2 w.heap.size;obtain ⟨hz2_1,hc2_1,hf2_1⟩:=c3_ hb2 (w.heap.size+1))
   | (go_at_call 78;refine m4_ (H4a HE.out _) fun w3 hb3 hc3 hf3 hs3=>?_;obtain ⟨hz3_0,hc3_0,hf3_0⟩:=c3_ hb3 w.heap.size;obtain ⟨hz3_1,hc3_1,hf3_1⟩:=c3_ hb3 (w.heap.size+1)))
  have E3:Ext w w3:=exx;have H3:=hZ (H.out.ext E3);have g3:=H3.out.words.get HN.out;have z3:=H3.out.words.lt
  go_region_with (go_at_call 79;refine m4_ (K4a (H.out.ext (exx)) HFL.out) fun w4 hb4 hc4 hf4 hs4=>?_;obtain ⟨hz4_0,hc4_0,hf4_0⟩:=c3_ hb4 w.heap.size;obtain ⟨hz4_1,hc4_1,hf4_1⟩:=c3_ hb4 (w.heap.size+1);have E4:Ext w w4:=Ext.trans (exx) hb4;have g4:=(H.out.ext E4).words.get HN.out)
  all_goals
   go_wp2_with fail
   refine bodyPost_ret (v:=.tuple #[.agg #[.int .i64 (-1),.slice none 0 0],.agg #[.int .u8 (t-20),.int .i64 n],.int .i64 0]) (by simp [results,results22,go_sem, *]) rfl ⟨rfl,exx⟩
def d9b (w:World) (t:Int) (ks:List Int) (e:Ending) (w':World):Prop:=∃ g c,e = .returned (.tuple #[.agg #[.int .i64 (t-1),.slice (some ⟨g,0,none⟩) ks.length c],.agg #[.int .u8 0,.int .i64 0],.int .i64 0])/\Row w' w.heap.size (some ⟨g,0,none⟩) c ks/\Ext w w'
theorem Row.lower {b1 b2:Nat} (h:Row w b1 p c l) (hb:b2<=b1):Row w b2 p c l:=by
 refine ⟨⟨h.1.1, ?_⟩,h.2⟩
 rcases h.1.2 with e | ⟨g',cap,cur,e,h1,h2⟩
 . exact .inl e
 exact .inr ⟨g',cap,cur,e,by omega,h2⟩
theorem m8b (h:HAt w d S) (hb:S.has a=true) (ht:S.tag a=some t) (he:Hp.B1a t=false) (hks:S.kids a=some ks) (ht1 : -1000000<=t) (ht2:t<=1000000) :
    Calls prog 22 #[.pointer (some ⟨d.hb,0,none⟩),.int .i64 a] w (d9b w t ks):=by
  have hal:=G0a ht;have sm:=h.small;have hkp:kp d a t=some ⟨d.gw,a+4,none⟩:=by simp [kp,he]
  obtain ⟨t',ht',hq⟩:=K8a hks;rw [ht] at ht'
  cases ht'
  have hk0:0 < ks.length:=by
   rcases hq with ⟨e,_⟩ | ⟨_,hf⟩
   . rw [he] at e
     cases e
   exact n1a h hf
  have hkl:ks.length<=1000000:=by
   rcases hq with ⟨_,rfl⟩ | ⟨_,hf⟩
   . simp
   obtain ⟨_,q,_,_,h4,h5,_⟩:=H7a hf;omega
  have q1:IntKind.i64.wrap (t-1)=t-1:=E4c _ (by omega);have H:=hZ h;have HB:=hZ hb;have HT:=hZ ht;have HE:=hZ he;have HKS:=hZ hks;have HK0:=hZ hk0;have HKP:=hZ hkp;clear h hb ht he hks hq hk0 hkp;have mixed:prog.follows .mixedOrders=true:=by kernel_rfl
  go_enter func22,ntmps22
  go_upto_region 7 with (first
   | (go_at_call 77;refine m4_ (t1a (H.out.ext (exx)) HB.out (by omega) (by omega)) fun w1 hb1 hc1 hf1 hs1=>?_;obtain ⟨hz1_0,hc1_0,hf1_0⟩:=c3_ hb1 w.heap.size;obtain ⟨hz1_1,hc1_1,hf1_1⟩:=c3_ hb1 (w.heap.size+1))
   | (go_at_call 76;refine m4_ (F4a ((H.out.ext (exx)).ext hb1).c2 rfl H.out.le H.out.cap ((H.out.ext (exx)).ext hb1).words HT.out) fun w2 hb2 hc2 hf2 hs2=>?_;obtain ⟨hz2_0,hc2_0,hf2_0⟩:=c3_ hb2 w.heap.size;obtain ⟨hz2_1,hc2_1,hf2_1⟩:=c3_ hb2 (w.heap.size+1))
   | (go_at_call 78;refine m4_ (H4a HE.out _) fun w3 hb3 hc3 hf3 hs3=>?_;obtain ⟨hz3_0,hc3_0,hf3_0⟩:=c3_ hb3 w.heap.size;obtain ⟨hz3_1,hc3_1,hf3_1⟩:=c3_ hb3 (w.heap.size+1)))
  go_region_with (first
   | (go_at_call 80;refine m4_ ((HKP.out ▸ V5a (H.out.ext (exx)) HT.out HKS.out)) fun w4 hb4 hc4 hf4 hs4=>?_;obtain ⟨hz4_0,hc4_0,hf4_0⟩:=c3_ hb4 w.heap.size;obtain ⟨hz4_1,hc4_1,hf4_1⟩:=c3_ hb4 (w.heap.size+1);have E4:Ext w w4:=Ext.trans (exx) hb4)
   | (go_at_call 60;refine (G7a (HKP.out ▸ r9a (H.out.ext (exx)) HT.out HKS.out) (.inl HK0.out) hkl).mono ?_;rintro e w5 ⟨p5,c5,rfl,hR,hb5,hg⟩;obtain ⟨g5,rfl⟩:=hg HK0.out;obtain ⟨hc5,hf5,hs5⟩:=hb5.cells;obtain ⟨hz5_0,hc5_0,hf5_0⟩:=c3_ hb5 w.heap.size;obtain ⟨hz5_1,hc5_1,hf5_1⟩:=c3_ hb5 (w.heap.size+1);have hR5:=hZ (hR.lower (b2:=w.heap.size+2) (by (try simp);omega))))
  all_goals
   go_wp2_with fail
   refine bodyPost_ret (v:=.tuple #[.agg #[.int .i64 (t-1),.slice (some ⟨g5,0,none⟩) ks.length c5],.agg #[.int .u8 0,.int .i64 0],.int .i64 0]) (by simp [results,results22,go_sem, *]) rfl ⟨g5,c5,rfl,Row.lower (b1:=w.heap.size+2) (hR5.out.but (bs:=[w.heap.size,w.heap.size+1]) (by repeat' (first | (with_reducible exact But.refl _ _) | (with_reducible refine But.setCell ?_ (.inl (by simp)) _))) (by simp)) (by omega),exx⟩
end Go.Proofs.YtdokmmhjmclmnaaGreat
