/-
  Part 7 of a proof: HFn22.
-/
import Derived.Test.YtdokmmhjmclmnaaGreatMV06
set_option linter.unusedSimpArgs false
set_option linter.unusedVariables false
set_option linter.unusedSectionVars false
set_option linter.unnecessarySimpa false
namespace Go.Proofs.YtdokmmhjmclmnaaGreat
variable {W' w w' w0 wb:World} {B a b base c cap ce cn f g gb i j k lb m n oc s sc:Nat} {choice t x:Int} {G W fs l o xs z:List Int} {S S':Hp.Hs} {A N T:List Nat} {M:List (Nat × Int)} {op p pe pn q sp:Option Addr} {d:Hd}
open Go.RowKit Go.Maps
set_option maxHeartbeats 4000000 in
theorem At_no (h:HAt w d S) (hb:S.has x=false) (h1 : -9223372036854775808<=x) (h2:x<=9223372036854775807) :
    Calls Tryz.prog 22 #[.pointer (some ⟨d.hb,0,none⟩),.int .i64 x] w fun e w'=>e = .returned (.tuple #[.agg #[.int .i64 0,.slice none 0 0],.agg #[.int .u8 0,.int .i64 0],.int .i64 7])/\Ext w w':=by
  have H:=hZ h;have HB:=hZ hb;clear h hb;have mixed:Tryz.prog.follows .mixedOrders=true:=by kernel_rfl
  go_enter Tryz.func22,Tryz.ntmps22;go_upto_region 3 with (go_at_call 77;refine (open_no (H.out.ext (exx)) HB.out h1 h2).mono ?_;rintro e w1 ⟨rfl,hb1⟩;obtain ⟨hc1,hf1,hs1⟩:=hb1.cells;have hz1_0:w.heap.size < w1.heap.size:=(by have h:=hb1.le;(try simp at h);omega);have hc1_0:=hb1.cell (b:=w.heap.size) (by first | omega | (simp;done) | (simp;omega));have hf1_0:=hb1.frozen (b:=w.heap.size) (by first | omega | (simp;done) | (simp;omega));have hz1_1:w.heap.size+1 < w1.heap.size:=(by have h:=hb1.le;(try simp at h);omega);have hc1_1:=hb1.cell (b:=w.heap.size+1) (by first | omega | (simp;done) | (simp;omega));have hf1_1:=hb1.frozen (b:=w.heap.size+1) (by first | omega | (simp;done) | (simp;omega)))
  go_region
  go_wp2_with fail
  refine bodyPost_ret (v:=.tuple #[.agg #[.int .i64 0,.slice none 0 0],.agg #[.int .u8 0,.int .i64 0],.int .i64 7]) (by simp [results,Tryz.results22,go_sem, *]) rfl ⟨rfl,exx⟩
set_option maxHeartbeats 4000000 in
theorem At_end {n:Int} (h:HAt w d S) (hb:S.has a=true) (ht:S.tag a=some t) (he:Hp.isEnd t=true) (hn:Hp.rd S.words (a+4)=some n) :
    Calls Tryz.prog 22 #[.pointer (some ⟨d.hb,0,none⟩),.int .i64 a] w fun e w'=>e = .returned (.tuple #[.agg #[.int .i64 (-1),.slice none 0 0],.agg #[.int .u8 (t-20),.int .i64 n],.int .i64 0])/\Ext w w':=by
  have hk:Hp.wide S.sizes t=some 5:=by simp [Hp.wide,he]
  have hal:=rd_lt hn;have hfl:S.fields a=some [n]:=by
   unfold Hp.Hs.fields Hp.Hs.wideAt;rw [ht];simp only [Option.bind_eq_bind,Option.bind_some,hk];unfold Hp.sub;rw [if_pos (by omega)]
   congr 1
   unfold Hp.rd at hn;obtain ⟨hl,e⟩:=List.getElem?_eq_some_iff.1 hn;rw [List.drop_eq_getElem_cons hl];simp [e]
  have hte:20<=t/\t<=24:=by
   unfold Hp.isEnd Hp.within at he
   simpa using he
  obtain ⟨te1,te2⟩:=hte;have q1:IntKind.i64.wrap (t-20)=t-20:=IntWalk.i64_in _ (by omega);have q2:IntKind.u8.wrap (t-20)=t-20:=by
   have hh:t=20 \/ t=21 \/ t=22 \/ t=23 \/ t=24:=by omega
   rcases hh with rfl | rfl | rfl | rfl | rfl <;> rfl
  have sm:=h.small;have H:=hZ h;have HB:=hZ hb;have HT:=hZ ht;have HE:=hZ he;have HFL:=hZ hfl;have HN:=hZ hn;clear h hb ht he hk hfl hn;have mixed:Tryz.prog.follows .mixedOrders=true:=by kernel_rfl
  go_enter Tryz.func22,Tryz.ntmps22
  go_upto_region 6 with (first
   | (go_at_call 77;refine (open_yes (H.out.ext (exx)) HB.out (by omega) (by omega)).mono ?_;rintro e w1 ⟨rfl,hb1⟩;obtain ⟨hc1,hf1,hs1⟩:=hb1.cells;have hz1_0:w.heap.size < w1.heap.size:=(by have h:=hb1.le;(try simp at h);omega);have hc1_0:=hb1.cell (b:=w.heap.size) (by first | omega | (simp;done) | (simp;omega));have hf1_0:=hb1.frozen (b:=w.heap.size) (by first | omega | (simp;done) | (simp;omega));have hz1_1:w.heap.size+1 < w1.heap.size:=(by have h:=hb1.le;(try simp at h);omega);have hc1_1:=hb1.cell (b:=w.heap.size+1) (by first | omega | (simp;done) | (simp;omega));have hf1_1:=hb1.frozen (b:=w.heap.size+1) (by first | omega | (simp;done) | (simp;omega)))
   | (go_at_call 76;refine (tag_any ((H.out.ext (exx)).ext hb1).c2 rfl H.out.le H.out.cap ((H.out.ext (exx)).ext hb1).words HT.out).mono ?_;rintro e w2 ⟨rfl,hb2⟩;obtain ⟨hc2,hf2,hs2⟩:=hb2.cells;have hz2_0:w.heap.size < w2.heap.size:=(by have h:=hb2.le;(try simp at h);omega);have hc2_0:=hb2.cell (b:=w.heap.size) (by first | omega | (simp;done) | (simp;omega));have hf2_0:=hb2.frozen (b:=w.heap.size) (by first | omega | (simp;done) | (simp;omega));have hz2_1:w.heap.size+1 < w2.heap.size:=(by have h:=hb2.le;(try simp at h);omega);have hc2_1:=hb2.cell (b:=w.heap.size+1) (by first | omega | (simp;done) | (simp;omega));have hf2_1:=hb2.frozen (b:=w.heap.size+1) (by first | omega | (simp;done) | (simp;omega)))
   | (go_at_call 78;refine (isEnd_is HE.out _).mono ?_;rintro e w3 ⟨rfl,hb3⟩;obtain ⟨hc3,hf3,hs3⟩:=hb3.cells;have hz3_0:w.heap.size < w3.heap.size:=(by have h:=hb3.le;(try simp at h);omega);have hc3_0:=hb3.cell (b:=w.heap.size) (by first | omega | (simp;done) | (simp;omega));have hf3_0:=hb3.frozen (b:=w.heap.size) (by first | omega | (simp;done) | (simp;omega));have hz3_1:w.heap.size+1 < w3.heap.size:=(by have h:=hb3.le;(try simp at h);omega);have hc3_1:=hb3.cell (b:=w.heap.size+1) (by first | omega | (simp;done) | (simp;omega));have hf3_1:=hb3.frozen (b:=w.heap.size+1) (by first | omega | (simp;done) | (simp;omega))))
  have E3:Ext w w3:=exx;have H3:=hZ (H.out.ext E3);have g3:=H3.out.words.get HN.out;have z3:=H3.out.words.lt
  go_region_with (go_at_call 79;refine (fields_any (H.out.ext (exx)) HFL.out).mono ?_;rintro e w4 ⟨rfl,hb4⟩;obtain ⟨hc4,hf4,hs4⟩:=hb4.cells;have hz4_0:w.heap.size < w4.heap.size:=(by have h:=hb4.le;(try simp at h);omega);have hc4_0:=hb4.cell (b:=w.heap.size) (by first | omega | (simp;done) | (simp;omega));have hf4_0:=hb4.frozen (b:=w.heap.size) (by first | omega | (simp;done) | (simp;omega));have hz4_1:w.heap.size+1 < w4.heap.size:=(by have h:=hb4.le;(try simp at h);omega);have hc4_1:=hb4.cell (b:=w.heap.size+1) (by first | omega | (simp;done) | (simp;omega));have hf4_1:=hb4.frozen (b:=w.heap.size+1) (by first | omega | (simp;done) | (simp;omega));have E4:Ext w w4:=Ext.trans (exx) hb4;have g4:=(H.out.ext E4).words.get HN.out)
  all_goals
   go_wp2_with fail
   refine bodyPost_ret (v:=.tuple #[.agg #[.int .i64 (-1),.slice none 0 0],.agg #[.int .u8 (t-20),.int .i64 n],.int .i64 0]) (by simp [results,Tryz.results22,go_sem, *]) rfl ⟨rfl,exx⟩
def NodePost (w:World) (t:Int) (ks:List Int) (e:Ending) (w':World):Prop:=∃ g c,e = .returned (.tuple #[.agg #[.int .i64 (t-1),.slice (some ⟨g,0,none⟩) ks.length c],.agg #[.int .u8 0,.int .i64 0],.int .i64 0])/\Row w' w.heap.size (some ⟨g,0,none⟩) c ks/\Ext w w'
theorem Row.lower {b1 b2:Nat} (h:Row w b1 p c l) (hb:b2<=b1):Row w b2 p c l:=by
 refine ⟨⟨h.1.1, ?_⟩,h.2⟩
 rcases h.1.2 with e | ⟨g',cap,cur,e,h1,h2⟩
 . exact .inl e
 exact .inr ⟨g',cap,cur,e,by omega,h2⟩
set_option maxHeartbeats 4000000 in
theorem At_node {ks:List Int} (h:HAt w d S) (hb:S.has a=true) (ht:S.tag a=some t) (he:Hp.isEnd t=false) (hks:S.kids a=some ks) (ht1 : -1000000<=t) (ht2:t<=1000000) :
    Calls Tryz.prog 22 #[.pointer (some ⟨d.hb,0,none⟩),.int .i64 a] w (NodePost w t ks):=by
  have hal:=rd_lt ht;have sm:=h.small;have hkp:kp d a t=some ⟨d.gw,a+4,none⟩:=by simp [kp,he]
  obtain ⟨t',ht',hq⟩:=kids_some hks;rw [ht] at ht'
  cases ht'
  have hk0:0 < ks.length:=by
   rcases hq with ⟨e,_⟩ | ⟨_,hf⟩
   . rw [he] at e
     cases e
   exact fields_pos h hf
  have hkl:ks.length<=1000000:=by
   rcases hq with ⟨_,rfl⟩ | ⟨_,hf⟩
   . simp
   obtain ⟨_,q,_,_,h4,h5,_⟩:=fields_some hf;omega
  have q1:IntKind.i64.wrap (t-1)=t-1:=IntWalk.i64_in _ (by omega);have H:=hZ h;have HB:=hZ hb;have HT:=hZ ht;have HE:=hZ he;have HKS:=hZ hks;have HK0:=hZ hk0;have HKP:=hZ hkp;clear h hb ht he hks hq hk0 hkp;have mixed:Tryz.prog.follows .mixedOrders=true:=by kernel_rfl
  go_enter Tryz.func22,Tryz.ntmps22
  go_upto_region 7 with (first
   | (go_at_call 77;refine (open_yes (H.out.ext (exx)) HB.out (by omega) (by omega)).mono ?_;rintro e w1 ⟨rfl,hb1⟩;obtain ⟨hc1,hf1,hs1⟩:=hb1.cells;have hz1_0:w.heap.size < w1.heap.size:=(by have h:=hb1.le;(try simp at h);omega);have hc1_0:=hb1.cell (b:=w.heap.size) (by first | omega | (simp;done) | (simp;omega));have hf1_0:=hb1.frozen (b:=w.heap.size) (by first | omega | (simp;done) | (simp;omega));have hz1_1:w.heap.size+1 < w1.heap.size:=(by have h:=hb1.le;(try simp at h);omega);have hc1_1:=hb1.cell (b:=w.heap.size+1) (by first | omega | (simp;done) | (simp;omega));have hf1_1:=hb1.frozen (b:=w.heap.size+1) (by first | omega | (simp;done) | (simp;omega)))
   | (go_at_call 76;refine (tag_any ((H.out.ext (exx)).ext hb1).c2 rfl H.out.le H.out.cap ((H.out.ext (exx)).ext hb1).words HT.out).mono ?_;rintro e w2 ⟨rfl,hb2⟩;obtain ⟨hc2,hf2,hs2⟩:=hb2.cells;have hz2_0:w.heap.size < w2.heap.size:=(by have h:=hb2.le;(try simp at h);omega);have hc2_0:=hb2.cell (b:=w.heap.size) (by first | omega | (simp;done) | (simp;omega));have hf2_0:=hb2.frozen (b:=w.heap.size) (by first | omega | (simp;done) | (simp;omega));have hz2_1:w.heap.size+1 < w2.heap.size:=(by have h:=hb2.le;(try simp at h);omega);have hc2_1:=hb2.cell (b:=w.heap.size+1) (by first | omega | (simp;done) | (simp;omega));have hf2_1:=hb2.frozen (b:=w.heap.size+1) (by first | omega | (simp;done) | (simp;omega)))
   | (go_at_call 78;refine (isEnd_is HE.out _).mono ?_;rintro e w3 ⟨rfl,hb3⟩;obtain ⟨hc3,hf3,hs3⟩:=hb3.cells;have hz3_0:w.heap.size < w3.heap.size:=(by have h:=hb3.le;(try simp at h);omega);have hc3_0:=hb3.cell (b:=w.heap.size) (by first | omega | (simp;done) | (simp;omega));have hf3_0:=hb3.frozen (b:=w.heap.size) (by first | omega | (simp;done) | (simp;omega));have hz3_1:w.heap.size+1 < w3.heap.size:=(by have h:=hb3.le;(try simp at h);omega);have hc3_1:=hb3.cell (b:=w.heap.size+1) (by first | omega | (simp;done) | (simp;omega));have hf3_1:=hb3.frozen (b:=w.heap.size+1) (by first | omega | (simp;done) | (simp;omega))))
  go_region_with (first
   | (go_at_call 80;refine ((HKP.out ▸ kids_any (H.out.ext (exx)) HT.out HKS.out)).mono ?_;rintro e w4 ⟨rfl,hb4⟩;obtain ⟨hc4,hf4,hs4⟩:=hb4.cells;have hz4_0:w.heap.size < w4.heap.size:=(by have h:=hb4.le;(try simp at h);omega);have hc4_0:=hb4.cell (b:=w.heap.size) (by first | omega | (simp;done) | (simp;omega));have hf4_0:=hb4.frozen (b:=w.heap.size) (by first | omega | (simp;done) | (simp;omega));have hz4_1:w.heap.size+1 < w4.heap.size:=(by have h:=hb4.le;(try simp at h);omega);have hc4_1:=hb4.cell (b:=w.heap.size+1) (by first | omega | (simp;done) | (simp;omega));have hf4_1:=hb4.frozen (b:=w.heap.size+1) (by first | omega | (simp;done) | (simp;omega));have E4:Ext w w4:=Ext.trans (exx) hb4)
   | (go_at_call 60;refine (sClone_any (HKP.out ▸ kids_at (H.out.ext (exx)) HT.out HKS.out) (.inl HK0.out) hkl).mono ?_;rintro e w5 ⟨p5,c5,rfl,hR,hb5,hg⟩;obtain ⟨g5,rfl⟩:=hg HK0.out;obtain ⟨hc5,hf5,hs5⟩:=hb5.cells;have hz5_0:w.heap.size < w5.heap.size:=(by have h:=hb5.le;(try simp at h);omega);have hc5_0:=hb5.cell (b:=w.heap.size) (by first | omega | (simp;done) | (simp;omega));have hf5_0:=hb5.frozen (b:=w.heap.size) (by first | omega | (simp;done) | (simp;omega));have hz5_1:w.heap.size+1 < w5.heap.size:=(by have h:=hb5.le;(try simp at h);omega);have hc5_1:=hb5.cell (b:=w.heap.size+1) (by first | omega | (simp;done) | (simp;omega));have hf5_1:=hb5.frozen (b:=w.heap.size+1) (by first | omega | (simp;done) | (simp;omega));have hR5:=hZ (hR.lower (b2:=w.heap.size+2) (by (try simp);omega))))
  all_goals
   go_wp2_with fail
   refine bodyPost_ret (v:=.tuple #[.agg #[.int .i64 (t-1),.slice (some ⟨g5,0,none⟩) ks.length c5],.agg #[.int .u8 0,.int .i64 0],.int .i64 0]) (by simp [results,Tryz.results22,go_sem, *]) rfl ⟨g5,c5,rfl,Row.lower (b1:=w.heap.size+2) (hR5.out.but (bs:=[w.heap.size,w.heap.size+1]) (by repeat' (first | (with_reducible exact But.refl _ _) | (with_reducible refine But.setCell ?_ (.inl (by simp)) _))) (by simp)) (by omega),exx⟩
end Go.Proofs.YtdokmmhjmclmnaaGreat
