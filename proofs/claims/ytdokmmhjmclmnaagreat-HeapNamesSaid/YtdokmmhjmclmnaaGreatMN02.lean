/-
  Part 2 of a proof: HFn2 HFn3 HAt2 RegTail HMap2 HMapI.
-/
import Derived.Deep.Draws
import Derived.Deep.LoopGhost
import Derived.Shelf.RegionOpenPlain
import Derived.StillTail
import Derived.WideKeyEntry
import Derived.Test.YtdokmmhjmclmnaaGreatMN01
set_option linter.unusedSimpArgs false
set_option linter.unusedVariables false
set_option linter.unusedSectionVars false
set_option linter.unnecessarySimpa false
namespace Go.Proofs.YtdokmmhjmclmnaaGreat
open Go.RowKit
theorem fields_some {S:Hp.Hs} {a:Nat} {l:List Int} (h:S.fields a=some l):∃ (t:Int) (k:Nat),S.tag a=some t ∧ Hp.wide S.sizes t=some (4+k) ∧ l.length=k ∧ a+4+k ≤ S.words.length ∧ ∀ j x,Hp.rd l j=some x → Hp.rd S.words (a+4+j)=some x:=by
 obtain ⟨m,hm,h⟩:=Option.bind_eq_some_iff.1 h
 obtain ⟨t,ht,hm⟩:=Option.bind_eq_some_iff.1 hm
 have hk:∃ k,m=4+k:=by
  rcases wide_some hm with ⟨_,rfl⟩ | ⟨_,i,s,_,_,rfl⟩
  · exact ⟨1,rfl⟩
  · exact ⟨s,rfl⟩
 obtain ⟨k,rfl⟩:=hk
 unfold Hp.sub at h
 split at h
 case isFalse=>cases h
 rename_i hl
 cases h
 refine ⟨t,k,ht,hm,by simp;omega,by omega,fun j x hx=>?_⟩
 unfold Hp.rd at hx ⊢
 rw [List.getElem?_take] at hx
 split at hx
 · rw [List.getElem?_drop] at hx;exact hx
 · cases hx
theorem fields_pos {w:World} {d:Hd} {S:Hp.Hs} {a:Nat} {l:List Int} (h:HAt w d S) (hl:S.fields a=some l):0 < l.length:=by
 obtain ⟨t,k,ht,hw,rfl,hle,-⟩:=fields_some hl
 rcases wide_some hw with ⟨_,h1⟩ | ⟨_,i,s,_,hs,h1⟩
 · omega
 · have:=h.pos s (List.mem_of_getElem? hs);omega
theorem wide_le {w:World} {d:Hd} {S:Hp.Hs} {t:Int} {k:Nat} (h:HAt w d S) (hw:Hp.wide S.sizes t=some k):5 ≤ k ∧ k ≤ 16:=by
 rcases wide_some hw with ⟨_,h1⟩ | ⟨_,i,s,_,hs,h1⟩
 · omega
 · have:=h.pos s (List.mem_of_getElem? hs);omega
theorem fields_at {w:World} {d:Hd} {S:Hp.Hs} {a:Nat} {l:List Int} (h:HAt w d S) (hl:S.fields a=some l):SliceAt w (some ⟨d.gw,a+4,none⟩) l.length l:=by
 obtain ⟨t,k,ht,hw,rfl,hle,hx⟩:=fields_some hl
 have:=h.le
 have:=h.cap
 exact ⟨Nat.le_refl _,by omega,fun x hm=>by
  obtain ⟨j,hj,rfl⟩:=List.getElem_of_mem hm;exact h.words.bound (hx j _ (List.getElem?_eq_getElem hj)),fun _=>⟨d.gw,a+4,rfl,h.words.lt,fun j x hj=>h.words.get (hx j x hj)⟩⟩
theorem fields_any {w:World} {d:Hd} {S:Hp.Hs} {a:Nat} {l:List Int} (h:HAt w d S) (hl:S.fields a=some l) :
    Calls Tryz.prog 79 #[.pointer (some ⟨d.hb,0,none⟩),.int .i64 a] w fun e w'=>e = .returned (.slice (some ⟨d.gw,a+4,none⟩) l.length l.length) ∧ Ext w w':=by
  have h0:=fields_pos h hl;obtain ⟨t,k,ht,hw,rfl,hle,-⟩:=fields_some hl;have c0:=h.c0;have c1:=h.c1;have c2:=h.c2;have hlt:=h.lt;have hcap:=h.cap;have hle':=h.le;have H:=Lib.hid h;clear h hl;go_enter Tryz.func79,Tryz.ntmps79;have e1:a+(4+l.length)-(a+4)=l.length:=by omega
  go_wp2_with fail
  have PR1:=Lib.hid (fun (ww:World) (hSw:Ext w ww)=>And.intro ((hSw.cell hlt 0).trans c0) (And.intro ((hSw.cell hlt 1).trans c1) ((hSw.cell hlt 2).trans c2)));refine wp_region_seq (S:=fun W=>Ext w W) (R:=Ext) (by kernel_rfl) Ext.refl ?_ ?_
  · exact exx
  refine' tkL 0 rfl ?h0_1 ?_
  case h0_1=>(intro w q;obtain ⟨c0',c1',c2'⟩:=PR1.out w q;go_simp;try with_reducible rfl)
  refine layy ?_;refine' tkL 1 rfl ?h1_2 ?_
  case h1_2=>(intro w q;obtain ⟨c0',c1',c2'⟩:=PR1.out w q;go_simp;try with_reducible rfl)
  refine layy ?_;refine' tkL 2 rfl ?h2_3 ?_
  case h2_3=>(intro w q;obtain ⟨c0',c1',c2'⟩:=PR1.out w q;go_simp;try with_reducible rfl)
  refine layy ?_;refine' tkL 3 rfl ?h3_4 ?_
  case h3_4=>(intro w q;obtain ⟨c0',c1',c2'⟩:=PR1.out w q;go_simp;try with_reducible rfl)
  refine layy ?_;refine' tkL 4 rfl ?h4_5 ?_
  case h4_5=>(intro w q;obtain ⟨c0',c1',c2'⟩:=PR1.out w q;go_simp;try with_reducible rfl)
  refine layy ?_;refine' tkL 5 rfl ?h5_6 ?_
  case h5_6=>(intro w q;obtain ⟨c0',c1',c2'⟩:=PR1.out w q;go_simp;try with_reducible rfl)
  refine layy ?_;refine' tkL 6 rfl ?h6_7 ?_
  case h6_7=>(intro w q;obtain ⟨c0',c1',c2'⟩:=PR1.out w q;go_simp;try with_reducible rfl)
  refine layy ?_;refine' tkL 7 rfl ?h7_8 ?_
  case h7_8=>(intro w q;obtain ⟨c0',c1',c2'⟩:=PR1.out w q;go_simp;try with_reducible rfl)
  refine layy ?_;refine' tkL 8 rfl ?h8_9 ?_
  case h8_9=>(intro w q;obtain ⟨c0',c1',c2'⟩:=PR1.out w q;go_simp;try with_reducible rfl)
  refine layy ?_;refine' tkR 9 (v:=.int .i64 t) rfl (Or.inr ⟨by rfl,76,_, ?hx9_10, ?hy9_10⟩) ?rest9_10
  case hx9_10=>(intro w hSw;go_simp;try with_reducible rfl)
  case hy9_10=>exact fun w hE=>(tag_any ((hE.cell hlt 2).trans c2) rfl hle' hcap (H.out.ext hE).words ht).mono (fun _ _ h=>⟨h.1,h.2,Ext.trans hE h.2⟩)
  refine layy ?_;refine' tkR 10 (v:=.int .i64 (4+l.length:Nat)) rfl (Or.inr ⟨by rfl,123,_, ?hx10_11, ?hy10_11⟩) ?rest10_11
  case hx10_11=>(intro w hSw;go_simp;try with_reducible rfl)
  case hy10_11=>exact fun w hE=>(wide_any (H.out.ext hE).sizes hw (by omega)).mono (fun _ _ h=>⟨h.1,h.2,Ext.trans hE h.2⟩)
  refine layy ?_;refine' tkL 11 rfl ?h11_12 ?_
  case h11_12=>(intro w q;obtain ⟨c0',c1',c2'⟩:=PR1.out w q;go_simp;try with_reducible rfl)
  refine layy ?_;refine' tkL 12 rfl ?h12_13 ?_
  case h12_13=>(intro w q;obtain ⟨c0',c1',c2'⟩:=PR1.out w q;go_simp;try with_reducible rfl)
  refine layy ?_;refine' tkL 13 rfl ?h13_14 ?_
  case h13_14=>(intro w q;obtain ⟨c0',c1',c2'⟩:=PR1.out w q;go_simp;try with_reducible rfl)
  refine layy ?_;refine wpAnyR_done (by kernel_rfl) ?_ _;intro x1 _ Ex1;have c2':=(Ex1.cell hlt 2).trans c2;go_wp2
  all_goals first
   | (exfalso;simp_all;done)
   | ((try simp only [e1]);go_returns;exact ⟨rfl,exx⟩)
   | (rw [e1];go_returns;exact ⟨rfl,exx⟩)
theorem kids_end {w:World} {d:Hd} {S:Hp.Hs} {a:Nat} {t:Int} (h:HAt w d S) (ht:S.tag a=some t) (he:Hp.isEnd t=true) :
    Calls Tryz.prog 80 #[.pointer (some ⟨d.hb,0,none⟩),.int .i64 a] w fun e w'=>e = .returned (.slice none 0 0) ∧ Ext w w':=by
  have H:=Lib.hid h;clear h;go_enter Tryz.func80,Tryz.ntmps80
  go_wp2_with (first
   | (go_at_call 76;refine (tag_any H.out.c2 rfl H.out.le H.out.cap H.out.words ht).mono ?_;rintro e w1 ⟨rfl,hb1⟩;obtain ⟨hc1,hf1,hs1⟩:=hb1.cells)
   | (go_at_call 78;refine (isEnd_is he _).mono ?_;rintro e w2 ⟨rfl,hb2⟩;obtain ⟨hc2,hf2,hs2⟩:=hb2.cells))
  go_returns;exact ⟨rfl,exx⟩
theorem kids_node {w:World} {d:Hd} {S:Hp.Hs} {a:Nat} {t:Int} {l:List Int} (h:HAt w d S) (ht:S.tag a=some t) (he:Hp.isEnd t=false) (hl:S.fields a=some l) :
    Calls Tryz.prog 80 #[.pointer (some ⟨d.hb,0,none⟩),.int .i64 a] w fun e w'=>e = .returned (.slice (some ⟨d.gw,a+4,none⟩) l.length l.length) ∧ Ext w w':=by
  have H:=Lib.hid h;clear h;go_enter Tryz.func80,Tryz.ntmps80
  go_wp2_with (first
   | (go_at_call 76;refine (tag_any H.out.c2 rfl H.out.le H.out.cap H.out.words ht).mono ?_;rintro e w1 ⟨rfl,hb1⟩;obtain ⟨hc1,hf1,hs1⟩:=hb1.cells)
   | (go_at_call 78;refine (isEnd_is he _).mono ?_;rintro e w2 ⟨rfl,hb2⟩;obtain ⟨hc2,hf2,hs2⟩:=hb2.cells)
   | (go_at_call 79;refine (fields_any (H.out.ext (hb1.trans hb2)) hl).mono ?_;rintro e w3 ⟨rfl,hb3⟩;obtain ⟨hc3,hf3,hs3⟩:=hb3.cells))
  go_returns;exact ⟨rfl,exx⟩
theorem ck_some {x y:Int} (h:Hp.ck x=some y):y=x ∧ -4611686018427387904 < x ∧ x < 4611686018427387904:=by
 unfold Hp.ck at h
 split at h
 · cases h;rename_i hb;exact ⟨rfl,hb⟩
 · cases h
theorem rc_some {W:List Int} {i:Nat} {x:Int} (h:Hp.rc W i=some x):Hp.rd W i=some x ∧ -4611686018427387904 < x ∧ x < 4611686018427387904:=by
 obtain ⟨y,hy,h⟩:=Option.bind_eq_some_iff.1 h
 obtain ⟨rfl,h1⟩:=ck_some h
 exact ⟨hy,h1⟩
theorem tmod16 (n:Int) : -16 < n.tmod 16 ∧ n.tmod 16 < 16 ∧ n.tmod 16 % 16=max (n % 16) 0:=by
 by_cases h:0 ≤ n
 · rw [Int.tmod_eq_emod_of_nonneg h];omega
 · have e:n.tmod 16 = -((-n) % 16):=by
     have h2:=Int.neg_tmod (-n) 16;rw [Int.neg_neg,Int.tmod_eq_emod_of_nonneg (a:=-n) (by omega)] at h2;exact h2
   rw [e];omega
theorem chain_any {w:World} {p:Option Addr} {c k:Nat} {t:Int} {l:List Int} (h:SliceAt w p c l) (hk:Hp.chain t l=some k) :
    Calls Tryz.prog 132 #[.int .i64 t,.slice p l.length c] w fun e w'=>e = .returned (.int .i64 k) ∧ Ext w w':=by
  simp only [Hp.chain,Option.bind_eq_bind,Option.bind_eq_some_iff,Option.pure_def,Option.some.injEq] at hk;obtain ⟨t',ht,n0,hn,r,hr,hk⟩:=hk;obtain ⟨rfl,ht1,ht2⟩:=ck_some ht;obtain ⟨rfl,hn1,hn2⟩:=ck_some hn;subst hk;have hle:=h.le;have hcap:=h.cap;have H:=Lib.hid h;have HR:=Lib.hid hr;clear h hr ht hn;generalize hL:l.length=n at hle ⊢;have HL:=Lib.hid hL;clear hL;go_enter Tryz.func132,Tryz.ntmps132;go_wp2
  go_loop [5,12] (fun a i=>∃ (j:Nat) (m:Int),j ≤ n ∧ i = .int .i64 j ∧ a = .int .i64 m ∧ -4611686018427387904 < m ∧ m < 4611686018427387904 ∧ Hid (Hp.sums (l.drop j) j m=some r)) (fun _ i=>n-(intOf i).toNat)
  case atStart=>exact ⟨0,_,Nat.zero_le _,rfl,rfl,hn1,hn2,HR⟩
  case round=>
   obtain ⟨j,m,hj,rfl,rfl,hm1,hm2,HS⟩:=hrel
   by_cases hlt:j < n
   · have hjl:j < l.length:=by rw [HL.out];exact hlt
     have hs:=HS.out;rw [List.drop_eq_getElem_cons hjl] at hs;obtain ⟨f,hf,hs⟩:=Option.bind_eq_some_iff.1 hs;obtain ⟨m',hm',hs⟩:=Option.bind_eq_some_iff.1 hs;obtain ⟨hfe,hf1,hf2⟩:=ck_some hf;obtain ⟨rfl,hm3,hm4⟩:=ck_some hm';rw [← hfe] at hf1 hf2;obtain ⟨b,o,rfl,hb,hc⟩:=H.out.cells (by omega);have g:=hc j f (by unfold Hp.rd;rw [List.getElem?_eq_getElem hjl,hfe]);have HT:=Lib.hid hs;clear hs hf hfe hm' hc HS;generalize he:((j:Int)+1) * f=q at hm3 hm4 HT;have e2:wrap64 (((j:Int)+1) * f)=q:=by rw [he];exact IntWalk.wrap64_in _ ⟨by omega,by omega⟩
     clear he;go_wp2
     go_round
     case rel=>exact ⟨j+1,m+q,by omega,by go_num,rfl,hm3,hm4,HT⟩
     case measure=>simp [intOf];omega
   · have:j=n:=by omega
     subst this;have hs:=HS.out;rw [List.drop_of_length_le (by rw [HL.out];exact Nat.le_refl _)] at hs;obtain rfl:m=r:=by simpa [Hp.sums] using hs
     clear hs HS HR;obtain ⟨q1,q2,q3⟩:=tmod16 m;have Q:=Lib.hid q3;clear q3;go_wp2;go_returns;refine ⟨?_,exx⟩;show Ending.returned (Value.int IntKind.i64 (m.tmod 16 % 16))=_;rw [Q.out]
theorem index_hit {l:List Int} {x:Int} {k:Nat} (hk:Hp.rd l k=some x) (h:∀ j,j < k → Hp.rd l j ≠ some x):Hp.index l x=k:=by
 have e:l.findIdx? (· == x)=some k:=by
  rw [List.findIdx?_eq_some_iff_getElem];unfold Hp.rd at hk h;obtain ⟨hl,he⟩:=List.getElem?_eq_some_iff.1 hk;refine ⟨hl,by simp [he],fun j hj=>?_⟩;have:=h j hj;rw [List.getElem?_eq_getElem (by omega)] at this
  simpa using this
 simp [Hp.index,e]
theorem index_miss {l:List Int} {x:Int} (h:∀ j,j < l.length → Hp.rd l j ≠ some x):Hp.index l x = -1:=by
 have e:l.findIdx? (· == x)=none:=by
  rw [List.findIdx?_eq_none_iff];intro y hy;obtain ⟨j,hj,rfl⟩:=List.getElem_of_mem hy;have:=h j hj;unfold Hp.rd at this;rw [List.getElem?_eq_getElem hj] at this
  simpa using this
 simp [Hp.index,e]
theorem rd_get {l:List Int} {j:Nat} (h:j < l.length):∃ x,Hp.rd l j=some x:=⟨l[j],List.getElem?_eq_getElem h⟩
theorem sIndex_any {w:World} {p:Option Addr} {c:Nat} {x:Int} {l:List Int} (h:SliceAt w p c l) :
    Calls Tryz.prog 169 #[.slice p l.length c,.int .i64 x] w fun e w'=>e = .returned (.int .i64 (Hp.index l x)) ∧ Ext w w':=by
  have hle:=h.le;have hcap:=h.cap;have H:=Lib.hid h;clear h;generalize hL:l.length=n at hle ⊢;have HL:=Lib.hid hL;clear hL;go_enter Tryz.func169,Tryz.ntmps169;go_wp2
  go_loop [8] (fun i=>∃ j:Nat,j ≤ n ∧ i = .int .i64 j ∧ Aside (∀ m,m < j → Hp.rd l m ≠ some x)) (fun i=>n-(intOf i).toNat)
  case atStart=>exact ⟨0,Nat.zero_le _,rfl,fun m hm=>absurd hm (Nat.not_lt_zero _)⟩
  case round=>
   obtain ⟨j,hj,rfl,HA⟩:=hrel
   by_cases hlt:j < n
   · obtain ⟨f,hf⟩:=rd_get (l:=l) (j:=j) (by rw [HL.out];exact hlt);obtain ⟨b,o,rfl,hb,hc⟩:=H.out.cells (by rw [HL.out];omega);have g:=hc j f hf;have HF:=Lib.hid hf;clear hf hc
     by_cases he:x=f
     · subst he;go_wp2;go_returns;exact ⟨by rw [index_hit HF.out HA.out];rfl,exx⟩
     · have e1:(x == f)=false:=by simpa using he
       go_wp2
       go_round
       case rel=>
        refine ⟨j+1,by omega,by go_num,(show Aside _ from fun m hm=>?_)⟩
        by_cases e:m=j
        · subst e;rw [HF.out];intro h
          cases h
          exact he rfl
        · exact HA.out m (by omega)
       case measure=>simp [intOf];omega
   · have:j=n:=by omega
     subst this;go_wp2;go_returns;exact ⟨by rw [index_miss (by rw [HL.out];exact HA.out)];rfl,exx⟩
theorem eq_of_rd {l m:List Int} (hl:l.length=m.length) (h:∀ j,j < l.length → Hp.rd l j=Hp.rd m j):l=m:=by
 apply List.ext_getElem? 
 intro i
 by_cases hi:i < l.length
 · exact h i hi
 · rw [List.getElem?_eq_none (by omega),List.getElem?_eq_none (by omega)]
theorem sEqual_any {w:World} {p q:Option Addr} {c d:Nat} {l m:List Int} (h:SliceAt w p c l) (k:SliceAt w q d m) :
    Calls Tryz.prog 101 #[.slice p l.length c,.slice q m.length d] w fun e w'=>e = .returned (.bool (decide (l=m))) ∧ Ext w w':=by
  by_cases hne:l.length=m.length
  case neg=>
   have e:decide (l=m)=false:=by
    apply decide_eq_false;intro e;exact hne (by rw [e])
   rw [e];have hle:=h.le;have hcap:=h.cap;have hle':=k.le;have hcap':=k.cap;clear h k e;generalize l.length=a at *;generalize m.length=b at *;have e1:((a:Int) == (b:Int))=false:=by simpa using (by omega:¬ (a:Int)=b)
   go_enter Tryz.func101,Tryz.ntmps101;go_wp2;go_returns;exact ⟨rfl,exx⟩
  case pos=>
   have hle:=h.le;have hcap:=h.cap;have hcap':=k.cap;have H:=Lib.hid h;have K:=Lib.hid k;clear h k;rw [← hne];have HM:=Lib.hid hne;clear hne;generalize hL:l.length=n at hle ⊢;have HL:=Lib.hid hL;clear hL;have mixed:Tryz.prog.follows .mixedOrders=true:=by kernel_rfl
   go_enter Tryz.func101,Tryz.ntmps101;go_wp2
   go_loopg [13] n (fun g i wr=>∃ j:Nat,j ≤ n ∧ n-j ≤ g ∧ i = .int .i64 j ∧ Aside (Ext w wr) ∧ Aside (∀ i,i < j → Hp.rd l i=Hp.rd m i))
   case atStart=>exact ⟨0,Nat.zero_le _,by omega,rfl,Ext.refl w,fun m hm=>absurd hm (Nat.not_lt_zero _)⟩
   case round=>
    obtain ⟨j,hj,hg,rfl,HE,HA⟩:=hrel
    by_cases hlt:j < n
    · obtain ⟨f,hf⟩:=rd_get (l:=l) (j:=j) (by rw [HL.out];exact hlt);obtain ⟨f',hf'⟩:=rd_get (l:=m) (j:=j) (by rw [← HM.out,HL.out];exact hlt);obtain ⟨b,o,rfl,hb,hc⟩:=(H.out.ext HE.out).cells (by rw [HL.out];omega);obtain ⟨b',o',rfl,hb',hc'⟩:=(K.out.ext HE.out).cells (by rw [← HM.out,HL.out];omega);have g1:=hc j f hf;have g2:=hc' j f' hf';have HF:=Lib.hid hf;have HF':=Lib.hid hf';clear hf hc hf' hc'
      by_cases he:f=f'
      · subst he
        go_wp2_with fail
        go_region_o
        go_wp2
        go_roundg (n-(j+1))
        case measure=>omega
        case rel=>
         refine ⟨j+1,by omega,by omega,by go_num,(show Aside _ from HE.out.drew),(show Aside _ from fun i hi=>?_)⟩
         by_cases e:i=j
         · subst e;rw [HF.out,HF'.out]
         · exact HA.out i (by omega)
      · have e1:(f == f')=false:=by simpa using he
        go_wp2_with fail
        go_region_o
        go_wp2;go_returns;refine ⟨?_,HE.out.drew⟩;have e:decide (l=m)=false:=by
         apply decide_eq_false;rintro rfl;have:=HF.out;rw [HF'.out] at this
         cases this
         exact he rfl
        rw [e];rfl
    · have:j=n:=by omega
      subst this;go_wp2;go_returns;refine ⟨?_,HE.out⟩;have e:decide (l=m)=true:=decide_eq_true (eq_of_rd HM.out (by rw [HL.out];exact HA.out));rw [e];rfl
theorem rank_any {p q:Option Addr} {n c d:Nat} {t:Int} {order:List Int} {w:World} (hS:SliceAt w q d order) (ht1 : -9223372036854775808 < t) (ht2:t ≤ 9223372036854775807) :
    Calls Tryz.prog 126 #[.agg #[.slice p n c,.slice q order.length d],.int .i64 t] w fun e w'=>e = .returned (.int .i64 (Hp.rank order t)) ∧ Ext w w':=by
  have H:=Lib.hid hS;clear hS
  cases he:Hp.isEnd t with
  | true=>
   have e1:Hp.rank order t=order.length:=by simp [Hp.rank,he]
   rw [e1];clear e1;have HE:=Lib.hid he;clear he;go_enter Tryz.func126,Tryz.ntmps126
   go_wp2_with (go_at_call 78;refine (isEnd_is HE.out _).mono ?_;rintro e w1 ⟨rfl,hb1⟩;obtain ⟨hc1,hf1,hs1⟩:=hb1.cells;have hz1_0:w.heap.size < w1.heap.size:=(by have h:=hb1.le;(try simp at h);omega);have hc1_0:=hb1.cell (b:=w.heap.size) (by first | omega | (simp;done) | (simp;omega));have hf1_0:=hb1.frozen (b:=w.heap.size) (by first | omega | (simp;done) | (simp;omega)))
   refine bodyPost_ret (v:=.int .i64 order.length) (by simp [results,Tryz.results126,go_sem, *]) rfl ⟨rfl,exx⟩
  | false=>
   have e1:Hp.rank order t=Hp.index order (t-1):=by simp [Hp.rank,he]
   rw [e1];clear e1;have HE:=Lib.hid he;clear he;go_enter Tryz.func126,Tryz.ntmps126
   go_wp2_with (first
    | (go_at_call 78;refine (isEnd_is HE.out _).mono ?_;rintro e w1 ⟨rfl,hb1⟩;obtain ⟨hc1,hf1,hs1⟩:=hb1.cells;have hz1_0:w.heap.size < w1.heap.size:=(by have h:=hb1.le;(try simp at h);omega);have hc1_0:=hb1.cell (b:=w.heap.size) (by first | omega | (simp;done) | (simp;omega));have hf1_0:=hb1.frozen (b:=w.heap.size) (by first | omega | (simp;done) | (simp;omega)))
    | (go_at_call 169;refine (sIndex_any (H.out.ext (exx:Ext w _))).mono ?_;rintro e w2 ⟨rfl,hb2⟩;obtain ⟨hc2,hf2,hs2⟩:=hb2.cells;have hz2_0:w.heap.size < w2.heap.size:=(by have h:=hb2.le;(try simp at h);omega);have hc2_0:=hb2.cell (b:=w.heap.size) (by first | omega | (simp;done) | (simp;omega));have hf2_0:=hb2.frozen (b:=w.heap.size) (by first | omega | (simp;done) | (simp;omega))))
   refine bodyPost_ret (v:=.int .i64 (Hp.index order (t-1))) (by simp [results,Tryz.results126,go_sem, *]) rfl ⟨rfl,exx⟩
theorem sEqual_is {w:World} {p q:Option Addr} {c d:Nat} {l m:List Int} {b:Bool} (hb:decide (l=m)=b) (h:SliceAt w p c l) (k:SliceAt w q d m) :
    Calls Tryz.prog 101 #[.slice p l.length c,.slice q m.length d] w fun e w'=>e = .returned (.bool b) ∧ Ext w w':=by
  subst hb;exact sEqual_any h k
theorem lookFrom_succ {S:Hp.Hs} {tag:Int} {l:List Int} {n a r:Nat} (h:S.lookFrom tag l n a=some r) :
    (a=0 ∧ r=0) ∨ (a ≠ 0 ∧ ∃ n' t f,n=n'+1 ∧ S.tag a=some t ∧ S.fields a=some f ∧ ((t=tag ∧ f=l ∧ r=a) ∨ (¬ (t=tag ∧ f=l) ∧ ∃ a',Hp.ra S.words (a+3)=some a' ∧ S.lookFrom tag l n' a'=some r))):=by
  cases n with
  | zero=>simp [Hp.Hs.lookFrom] at h
  | succ n=>
   unfold Hp.Hs.lookFrom at h
   by_cases ha:a=0
   · rw [if_pos ha] at h;simp only [Option.some.injEq] at h;exact .inl ⟨ha,h.symm⟩
   · rw [if_neg ha] at h;simp only [Option.bind_eq_bind,Option.bind_eq_some_iff] at h;obtain ⟨t,ht,f,hf,h⟩:=h;refine .inr ⟨ha,n,t,f,rfl,ht,hf, ?_⟩
     split at h
     · rename_i hc;exact .inl ⟨hc.1,hc.2,by simpa using h.symm⟩
     · rename_i hc;simp only [Option.bind_eq_some_iff] at h;obtain ⟨a',ha',h⟩:=h;exact .inr ⟨hc,a',ha',h⟩
theorem look_any {w:World} {d:Hd} {S:Hp.Hs} {p:Option Addr} {c r:Nat} {tag:Int} {l:List Int} (h:HAt w d S) (hf:SliceAt w p c l) (hr:S.look tag l=some r) :
    Calls Tryz.prog 110 #[.pointer (some ⟨d.hb,0,none⟩),.int .i64 tag,.slice p l.length c] w fun e w'=>e = .returned (.int .i64 r) ∧ Ext w w':=by
  unfold Hp.Hs.look at hr;simp only [Option.bind_eq_bind,Option.bind_eq_some_iff] at hr;obtain ⟨k,hk,a,ha,hr⟩:=hr;have hkl:k < S.words.length:=rd_lt (ra_some ha);have g:=h.words.get (ra_some ha);have c2:=h.c2;have z1:=h.lt;have z2:=h.words.lt;have hle:=h.le;have hcap:=h.cap;have H:=Lib.hid h;have HF:=Lib.hid hf;have HR:=Lib.hid hr;have HK:=Lib.hid hk;clear h hf hr hk ha;go_enter Tryz.func110,Tryz.ntmps110
  go_wp2_with fail
  have PR2:=Lib.hid (fun (ww:World) (hSw:Ext w ww)=>And.intro ((hSw.cell z1 2).trans c2) ((hSw.cell z2 k).trans g));refine wp_region_seq (S:=fun W=>Ext w W) (R:=Ext) (by kernel_rfl) Ext.refl ?_ ?_
  · exact exx
  refine' tkL 0 rfl ?h0_15 ?_
  case h0_15=>(intro w q;obtain ⟨c2',g'⟩:=PR2.out w q;go_simp;try with_reducible rfl)
  refine layy ?_;refine' tkL 1 rfl ?h1_16 ?_
  case h1_16=>(intro w q;obtain ⟨c2',g'⟩:=PR2.out w q;go_simp;try with_reducible rfl)
  refine layy ?_;refine' tkL 2 rfl ?h2_17 ?_
  case h2_17=>(intro w q;obtain ⟨c2',g'⟩:=PR2.out w q;go_simp;try with_reducible rfl)
  refine layy ?_;refine' tkL 3 rfl ?h3_18 ?_
  case h3_18=>(intro w q;obtain ⟨c2',g'⟩:=PR2.out w q;go_simp;try with_reducible rfl)
  refine layy ?_;refine' tkL 4 rfl ?h4_19 ?_
  case h4_19=>(intro w q;obtain ⟨c2',g'⟩:=PR2.out w q;go_simp;try with_reducible rfl)
  refine layy ?_;refine' tkL 5 rfl ?h5_20 ?_
  case h5_20=>(intro w q;obtain ⟨c2',g'⟩:=PR2.out w q;go_simp;try with_reducible rfl)
  refine layy ?_;refine' tkR 6 (v:=.int .i64 k) rfl (Or.inr ⟨by rfl,132,_, ?hx6_21, ?hy6_21⟩) ?rest6_21
  case hx6_21=>(intro w hSw;go_simp;try with_reducible rfl)
  case hy6_21=>exact fun w hE=>(chain_any (HF.out.ext hE) HK.out).mono (fun _ _ h=>⟨h.1,h.2,Ext.trans hE h.2⟩)
  refine layy ?_;refine' tkL 7 rfl ?h7_22 ?_
  case h7_22=>(intro w q;obtain ⟨c2',g'⟩:=PR2.out w q;go_simp;try with_reducible rfl)
  refine layy ?_;refine' tkL 8 rfl ?h8_23 ?_
  case h8_23=>(intro w q;obtain ⟨c2',g'⟩:=PR2.out w q;go_simp;try with_reducible rfl)
  refine layy ?_;refine' tkL 9 rfl ?h9_24 ?_
  case h9_24=>(intro w q;obtain ⟨c2',g'⟩:=PR2.out w q;go_simp;try with_reducible rfl)
  refine layy ?_;refine wpAnyR_done (by kernel_rfl) ?_ _;intro x1 _ Ex1
  go_wp2_with fail
  go_loopg [7] S.fuel (fun g s wr=>∃ m a:Nat,m ≤ g ∧ s = .int .i64 a ∧ Aside (Ext w wr) ∧ Hid (S.lookFrom tag l m a=some r))
  case atStart=>exact ⟨S.fuel,a,Nat.le_refl _,rfl,Ex1,HR⟩
  case round=>
   obtain ⟨m,a,hm,rfl,HE,HL⟩:=hrel;clear c2 g;have H1:=Lib.hid (H.out.ext HE.out);have F1:=Lib.hid (HF.out.ext HE.out);have c2:=H1.out.c2;have z1:=H1.out.lt;have z2:=H1.out.words.lt
   rcases lookFrom_succ HL.out with ⟨rfl,rfl⟩ | ⟨ha,n',t,f,hn',ht,hf,hq⟩
   · go_wp2_with fail
     go_returns;exact ⟨rfl,HE.out⟩
   · have HT:=Lib.hid ht;have HFf:=Lib.hid hf;have Hn:=Lib.hid hn';clear ht hf hn';have ha':((a:Int) != 0)=true:=by simpa using ha
     by_cases htt:t=tag
     · subst htt
       by_cases hff:f=l
       · have hra:r=a:=by
           rcases hq with ⟨_,_,h⟩ | ⟨h,_⟩
           · exact h
           · exact absurd ⟨rfl,hff⟩ h
         subst hra;clear hq;have HD:=Lib.hid (decide_eq_true hff);clear hff
         go_wp2_with (first
          | (go_at_call 76;refine (tag_any c2 rfl hle hcap H1.out.words HT.out).mono ?_;rintro e w1 ⟨rfl,hb1⟩;obtain ⟨hc1,hf1,hs1⟩:=hb1.cells)
          | (go_at_call 79;refine (fields_any (H1.out.ext (exx)) HFf.out).mono ?_;rintro e w2 ⟨rfl,hb2⟩;obtain ⟨hc2,hf2,hs2⟩:=hb2.cells)
          | (go_at_call 101;refine (sEqual_is HD.out (fields_at (H1.out.ext (exx)) HFf.out) (F1.out.ext (exx))).mono ?_;rintro e w3 ⟨rfl,hb3⟩;obtain ⟨hc3,hf3,hs3⟩:=hb3.cells))
         go_returns;exact ⟨rfl,HE.out.trans (exx)⟩
       · obtain ⟨a',hra,hq⟩:∃ a',Hp.ra S.words (a+3)=some a' ∧ S.lookFrom t l n' a'=some r:=by
           rcases hq with ⟨_,h,_⟩ | ⟨_,h⟩
           · exact absurd h hff
           · exact h
         have hal:=rd_lt (ra_some hra);have g:=H1.out.words.get (ra_some hra);have HQ:=Lib.hid hq;have HD:=Lib.hid (decide_eq_false hff);clear hff hq hra
         go_wp2_with (first
          | (go_at_call 76;refine (tag_any c2 rfl hle hcap H1.out.words HT.out).mono ?_;rintro e w1 ⟨rfl,hb1⟩;obtain ⟨hc1,hf1,hs1⟩:=hb1.cells)
          | (go_at_call 79;refine (fields_any (H1.out.ext (exx)) HFf.out).mono ?_;rintro e w2 ⟨rfl,hb2⟩;obtain ⟨hc2,hf2,hs2⟩:=hb2.cells)
          | (go_at_call 101;refine (sEqual_is HD.out (fields_at (H1.out.ext (exx)) HFf.out) (F1.out.ext (exx))).mono ?_;rintro e w3 ⟨rfl,hb3⟩;obtain ⟨hc3,hf3,hs3⟩:=hb3.cells;have E3:=(hb1.trans hb2).trans hb3;have c2'':=(E3.cell z1 2).trans c2;have g'':=(E3.cell z2 (a+3)).trans g))
         go_roundg (n')
         case measure=>have:=Hn.out;omega
         case rel=>exact ⟨n',a',Nat.le_refl _,rfl,HE.out.trans (exx),HQ⟩
     · obtain ⟨a',hra,hq⟩:∃ a',Hp.ra S.words (a+3)=some a' ∧ S.lookFrom tag l n' a'=some r:=by
         rcases hq with ⟨h,_,_⟩ | ⟨_,h⟩
         · exact absurd h htt
         · exact h
       have hal:=rd_lt (ra_some hra);have g:=H1.out.words.get (ra_some hra);have HQ:=Lib.hid hq;have htt':(t != tag)=true:=by simpa using htt
       clear htt hq hra
       go_wp2_with (first
        | (go_at_call 76;refine (tag_any c2 rfl hle hcap H1.out.words HT.out).mono ?_;rintro e w1 ⟨rfl,hb1⟩;obtain ⟨hc1,hf1,hs1⟩:=hb1.cells))
       go_roundg (n')
       case measure=>have:=Hn.out;omega
       case rel=>exact ⟨n',a',Nat.le_refl _,rfl,HE.out.trans (exx),HQ⟩
namespace HAt
variable {w w':World} {d:Hd} {S:Hp.Hs}
theorem turn (h:HAt w d S) (k:But [d.gw,d.gm] w w') {W:List Int} {T:List Nat} (hw:WordsAt w' d.gw W) (hl:W.length=S.words.length) (hm:MapAt Tryz.prog w' d.gm T) (hb:∀ a ∈ T,a < W.length):HAt w' d { S with words:=W,taken:=T }:=by
 have n1:d.hb ∉ [d.gw,d.gm]:=by simp [h.apart1,h.apart2]
 exact
 { c0:=(k.cell h.lt n1 0).trans h.c0
   c1:=(k.cell h.lt n1 1).trans h.c1
   c2:=by rw [k.cell h.lt n1 2,h.c2,hl]
   c3:=(k.cell h.lt n1 3).trans h.c3
   f2:=(k.frozen h.lt n1 2).trans h.f2
   sizes:=h.sizes.but k (fun b o e hm=>h.far1 b o e (by simp [Hd.own] at hm ⊢;rcases hm with hm | hm <;> simp [hm]))
   order:=h.order.but k (fun b o e hm=>h.far2 b o e (by simp [Hd.own] at hm ⊢;rcases hm with hm | hm <;> simp [hm]))
   words:=hw
   le:=by rw [hl];exact h.le
   cap:=h.cap
   map:=hm
   below:=hb
   apart1:=h.apart1
   apart2:=h.apart2
   apart3:=h.apart3
   far1:=h.far1
   far2:=h.far2
   pos:=h.pos
   small:=by rw [hl];exact h.small
   few:=h.few
   old1:=fun b o e=>Nat.lt_of_lt_of_le (h.old1 b o e) k.size
   old2:=fun b o e=>Nat.lt_of_lt_of_le (h.old2 b o e) k.size }
theorem but (h:HAt w d S) {l:List Nat} (k:But l w w') (h0:d.hb ∉ l) (h1:d.gw ∉ l) (h2:d.gm ∉ l) (h3:∀ b o,d.sp=some ⟨b,o,none⟩ → b ∉ l) (h4:∀ b o,d.op=some ⟨b,o,none⟩ → b ∉ l):HAt w' d S:=
 { h with
   c0:=(k.cell h.lt h0 0).trans h.c0
   c1:=(k.cell h.lt h0 1).trans h.c1
   c2:=(k.cell h.lt h0 2).trans h.c2
   c3:=(k.cell h.lt h0 3).trans h.c3
   f2:=(k.frozen h.lt h0 2).trans h.f2
   sizes:=h.sizes.but k h3
   order:=h.order.but k h4
   words:=h.words.but k h1
   map:=h.map.but k h2
   old1:=fun b o e=>Nat.lt_of_lt_of_le (h.old1 b o e) k.size
   old2:=fun b o e=>Nat.lt_of_lt_of_le (h.old2 b o e) k.size }
theorem wr_len {W W':List Int} {j:Nat} {v:Int} (h:Hp.wr W j v=some W'):W'.length=W.length ∧ j < W.length:=by
 unfold Hp.wr at h
 split at h
 · rename_i hj
   cases h
   exact ⟨by simp,hj⟩
 · cases h
theorem zero_len {W W':List Int} {i n:Nat} (h:Hp.zero W i n=some W'):W'.length=W.length ∧ i+n ≤ W.length:=by
 unfold Hp.zero at h
 split at h
 · rename_i hj
   cases h
   exact ⟨by simp;omega,hj⟩
 · cases h
theorem lay_len {W W' l:List Int} {i:Nat} (h:Hp.lay W i l=some W'):W'.length=W.length ∧ i+l.length ≤ W.length:=by
 unfold Hp.lay at h
 split at h
 · rename_i hj
   cases h
   exact ⟨by simp;omega,hj⟩
 · cases h
theorem clear (h:HAt w d S) {i n:Nat} {W:List Int} (hw:Hp.zero S.words i n=some W):HAt (w.setCells d.gw i (List.replicate n (.int .i64 0))) d { S with words:=W }:=by
 have k:But [d.gw,d.gm] w (w.setCells d.gw i (List.replicate n (.int .i64 0))):=But.setCells (by simp) _ _ (But.refl _ _)
 have k1:But [d.gw] w (w.setCells d.gw i (List.replicate n (.int .i64 0))):=But.setCells (by simp) _ _ (But.refl _ _)
 exact h.turn k (h.words.clear hw) (zero_len hw).1 (h.map.but k1 (by simp [h.apart3.symm])) (fun a ha=>by rw [(zero_len hw).1];exact h.below a ha)
theorem mapped (h:HAt w d S) {T:List Nat} (k:w.mapTurned w' d.gm) (hm:MapAt Tryz.prog w' d.gm T) (hb:∀ a ∈ T,a < S.words.length):HAt w' d { S with taken:=T }:=by
 have k1:But [d.gm] w w':=(But.refl _ _).turned k (by simp)
 exact h.turn (k1.mono (by simp)) (h.words.but k1 (by simp [h.apart3])) rfl hm hb
end HAt
structure Now (w0 w:World) (d:Hd) (S:Hp.Hs):Prop extends HAt w d S where
 but:But d.own w0 w
theorem Hd.gw_own (d:Hd):d.gw ∈ d.own:=by simp [Hd.own]
theorem Hd.gm_own (d:Hd):d.gm ∈ d.own:=by simp [Hd.own]
theorem Hd.hb_own (d:Hd):d.hb ∈ d.own:=by simp [Hd.own]
namespace Now
variable {w0 w w':World} {d:Hd} {S:Hp.Hs}
theorem refl (h:HAt w d S):Now w w d S:=⟨h,But.refl _ _⟩
theorem ext (h:Now w0 w d S) (k:Ext w w'):Now w0 w' d S:=⟨h.toHAt.ext k,h.but.ext k⟩
theorem set (h:Now w0 w d S) {j:Nat} {v:Int} {W:List Int} (hw:Hp.wr S.words j v=some W) (h1 : -9223372036854775808 ≤ v) (h2:v ≤ 9223372036854775807):Now w0 (w.setCell ⟨d.gw,j,none⟩ (.int .i64 v)) d { S with words:=W }:=
 ⟨h.toHAt.set hw h1 h2,h.but.setCell (.inl d.gw_own) _⟩
theorem clear (h:Now w0 w d S) {i n:Nat} {W:List Int} (hw:Hp.zero S.words i n=some W):Now w0 (w.setCells d.gw i (List.replicate n (.int .i64 0))) d { S with words:=W }:=
 ⟨h.toHAt.clear hw,But.setCells (.inl d.gw_own) _ _ h.but⟩
theorem mapped (h:Now w0 w d S) {T:List Nat} (k:w.mapTurned w' d.gm) (hm:MapAt Tryz.prog w' d.gm T) (hb:∀ a ∈ T,a < S.words.length):Now w0 w' d { S with taken:=T }:=
 ⟨h.toHAt.mapped k hm hb,h.but.turned k (.inl d.gm_own)⟩
theorem turned (h:Now w0 w d S) {l:List Nat} {d':Hd} (k:But l w w') (hl:∀ x ∈ l,x ∈ d.own) (h':HAt w' d' S) (hd:d'.own=d.own):Now w0 w' d' S:=⟨h',by rw [hd];exact h.but.trans (k.mono hl)⟩
theorem cut {P:Program} {c:Code} {Q:Exit → Act → World → Prop} {a:Act} (h:Now w0 w d S) (k:∀ w',Now w0 w' d S → c.wp P Q a w'):c.wp P Q a w:=k w h
end Now
def Turned (d:Hd) (w:World) (v:Value) (S:Hp.Hs) (e:Ending) (w':World):Prop:=e = .returned v ∧ HAt w' d S ∧ But d.own w w'
theorem Now.done {w0 w:World} {d:Hd} {S:Hp.Hs} {v:Value} (h:Now w0 w d S):Turned d w0 v S (.returned v) w:=⟨rfl,h.toHAt,h.but⟩
theorem Turned.now {w w':World} {d:Hd} {S:Hp.Hs} {v:Value} {e:Ending} (h:Turned d w v S e w'):e = .returned v ∧ Now w w' d S:=⟨h.1,h.2.1,h.2.2⟩
open Go
section
variable {P:Program} {ops:Array Oper} {Q:Exit → Act → World → Prop} {md:Region.Mode} {S:World → Prop} {R:World → World → Prop}
def sinkFrom (md:Region.Mode) (ops:Array Oper) (n:Nat) (listed:Array Bool):Bool:=
 (List.range n).all fun i=>listed.getD i false || (List.range (n+1)).any fun j=>decide (i < j) && Region.waitsFor md ops j i
def headInvB (md:Region.Mode) (ops:Array Oper) (n:Nat) (listed:Array Bool):Bool:=
 decide (listed.size=ops.size) &&
 ((List.range ops.size).all fun j=>!(listed.getD j false) || (match ops[j]? with | some o=>o.after.all (fun e=>!(Region.binds md e) || listed.getD e.on false) | none=>true)) &&
 ((List.range ops.size).all fun t=>decide (t < n) || !(listed.getD t true))
theorem headInvB_spec {n:Nat} {listed:Array Bool} (h:headInvB md ops n listed=true):HeadInv md ops n listed:=by
 simp only [headInvB,Bool.and_eq_true,decide_eq_true_eq] at h
 obtain ⟨⟨h1,h2⟩,h3⟩:=h
 refine ⟨h1,fun j oj hj hl e he hb=>?_,fun t ht htl=>?_⟩
 · have hjl:j < ops.size:=(Array.getElem?_eq_some_iff.1 hj).1;have:=List.all_eq_true.1 h2 j (List.mem_range.2 hjl);rw [hl,hj] at this;simp only [Bool.not_true,Bool.false_or] at this;have:=Array.all_eq_true_iff_forall_mem.1 this e he;rw [hb] at this
   simpa using this
 · have:=List.all_eq_true.1 h3 t (List.mem_range.2 htl);simp only [Bool.or_eq_true,decide_eq_true_eq] at this
   rcases this with h | h
   · omega
   · simpa using h
def Sunk (md:Region.Mode) (ops:Array Oper) (n:Nat) (listed:Array Bool):Prop:=
 ∀ i,i < n → listed.getD i true=false → ∃ j,j ≤ n ∧ i < j ∧ Region.waitsFor md ops j i=true
theorem sinkFrom_spec {n:Nat} {listed:Array Bool} (h:sinkFrom md ops n listed=true):Sunk md ops n listed:=by
 intro i hi hun
 have:=List.all_eq_true.1 h i (List.mem_range.2 hi)
 rw [getD_both hun] at this
 simp only [Bool.false_or] at this
 obtain ⟨j,hj,h2⟩:=List.any_eq_true.1 this
 simp only [Bool.and_eq_true,decide_eq_true_eq] at h2
 exact ⟨j,by have:=List.mem_range.1 hj;omega,h2.1,h2.2⟩
theorem Sunk.set {n i:Nat} {listed:Array Bool} (h:Sunk md ops n listed):Sunk md ops n (listed.setIfInBounds i true):=by
 intro k hk hun
 by_cases e:i=k
 · subst e
   rcases Nat.lt_or_ge i listed.size with h' | h'
   · simp [h'] at hun
   · refine h i hk ?_;simp [Array.getElem?_eq_none h'] at hun
 · rw [getD_set_ne true e] at hun;exact h k hk hun
theorem tail_bars {n:Nat} {listed:Array Bool} (hs:Sunk md ops n listed) (hc:Region.chainB md ops n=true) (inv:HeadInv md ops n listed) :
    ∀ (d i:Nat),n-i=d → i < n → listed.getD i true=false → ∀ t,n ≤ t → t ∉ Region.ready md ops listed:=by
  intro d
  induction d using Nat.strongRecOn with
  | _ d ih=>
   intro i hd hi hun t ht hr;obtain ⟨_,ot,hot,hall⟩:=mem_ready.1 hr;have htlt:t < ops.size:=(Array.getElem?_eq_some_iff.1 hot).1
   by_cases htn:t=n
   · subst htn;obtain ⟨j,hjle,hij,hw⟩:=hs i hi hun;obtain ⟨oj,hoj,e,he,hb,hon⟩:=Region.waitsFor_spec hw
     by_cases hjt:j=t
     · subst hjt;have:oj=ot:=Option.some.inj (hoj.symm.trans hot);subst this;have h2:=hall e he hb;rw [hon,getD_both hun] at h2
       cases h2
     · cases hl:listed.getD j false with
       | true=>
        have h2:=inv.closed j oj hoj hl e he hb;rw [hon,getD_both hun] at h2
        cases h2
       | false=>
        have hjs:j < listed.size:=by rw [inv.size];omega
        exact ih (t-j) (by omega) j rfl (by omega) (getD_in hjs hl) t (Nat.le_refl _) hr
   · have h1:=List.all_eq_true.1 hc t (List.mem_range.2 htlt);simp only [Bool.or_eq_true,decide_eq_true_eq] at h1
     rcases h1 with h1 | h1
     · omega
     · obtain ⟨o',ho',e,he,hb,hon⟩:=Region.waitsFor_spec h1;have:o'=ot:=Option.some.inj (ho'.symm.trans hot);subst this;have h2:=hall e he hb;rw [hon,getD_both (inv.tail (t-1) (by omega) (by omega))] at h2
       cases h2
def wpAnyX (P:Program) (md:Region.Mode) (ops:Array Oper) (Q:Exit → Act → World → Prop) (S:World → Prop) (R:World → World → Prop) (n G:Nat):Nat → Array Bool → Act → World → Prop
 | 0,listed,a,w=>(∀ j ∈ Region.ready md ops listed,n ≤ j) ∧ ∀ w',R w w' → S w' → wpAny P md ops Q G listed a w'
 | f+1,listed,a,w=>∀ w',R w w' → S w' → Region.ready md ops listed ≠ [] ∧
     ∀ i ∈ Region.ready md ops listed,i < n ∧ wpOp P ops Q i (fun a' w''=>S w'' ∧ wpAnyX P md ops Q S R n G f (listed.setIfInBounds i true) a' w'') a w'
variable {n G:Nat}
theorem wpAnyX.mono (hT:∀ a b c,R a b → R b c → R a c):∀ {f:Nat} {listed:Array Bool} {a:Act} {w w1:World},R w w1 → wpAnyX P md ops Q S R n G f listed a w → wpAnyX P md ops Q S R n G f listed a w1
 | 0,_,_,_,_,hr,h=>⟨h.1,fun w' r s=>h.2 w' (hT _ _ _ hr r) s⟩
 | _+1,_,_,_,_,hr,h=>fun w' r s=>h w' (hT _ _ _ hr r) s
theorem wpAny_of_X (hR:∀ w,R w w):∀ (f:Nat) (listed:Array Bool) (a:Act) (w:World),S w → wpAnyX P md ops Q S R n G f listed a w → wpAny P md ops Q (f+G) listed a w
 | 0,_,_,w,hS,h=>by rw [Nat.zero_add];exact h.2 w (hR w) hS
 | f+1,_,_,w,hS,h=>by
  rw [show f+1+G=(f+G)+1 by omega];exact ⟨fun h0=>absurd h0 (h w (hR w) hS).1,fun i hi=>wpOp_mono (fun a' w' h'=>wpAny_of_X hR f _ a' w' h'.1 h'.2) ((h w (hR w) hS).2 i hi).2⟩
theorem wpAnyX_first {i:Nat} {oi:Oper} {v:Value} (hR:∀ w,R w w) (hT:∀ a b c,R a b → R b c → R a c) (hi:ops[i]? = some oi) (hsel:∀ (j:Nat) (o:Oper) cs b,ops[j]? = some o → o.op ≠ .select cs b)
    (hQ:∀ c a w,Q (.panic c) (a.put oi.dst v) w → Q (.panic c) a w) (hc:Region.chainB md ops n=true) (hin:i < n) :
    ∀ (f:Nat) (listed:Array Bool) (a:Act) (w:World),HeadInv md ops n listed → Sunk md ops n listed →
     (∀ j oj,ops[j]? = some oj → j ≠ i → listed.getD j true=false → (∀ e ∈ oj.after,Region.binds md e=true → e.on ≠ i) → oi.apart ops oj=true) →
     i ∈ Region.ready md ops listed → YieldsOn P ops S R oi v a →
     wpAnyX P md ops Q S R n G f (listed.setIfInBounds i true) (a.put oi.dst v) w → wpAnyX P md ops Q S R n G (f+1) listed a w:=by
  intro f
  induction f with
  | zero=>
   intro listed a w inv hs _ hr hy H w' r s;have hun:=(mem_ready.1 hr).1;refine ⟨fun h=>(by rw [h] at hr;cases hr),fun j hj=>?_⟩
   have hjn:j < n:=by
    rcases Nat.lt_or_ge j n with h | h
    · exact h
    · exact absurd hj (tail_bars hs hc inv _ i rfl hin hun j h)
   refine ⟨hjn, ?_⟩
   by_cases hji:j=i
   · subst hji;exact hy.wpOp hi hR s fun w'' r' s'=>⟨s',wpAnyX.mono hT (hT _ _ _ r r') H⟩
   · have:=H.1 j (ready_mono hj hji);omega
  | succ f ih=>
   intro listed a w inv hs hfree hr hy H w' r s;have hun:listed.getD i true=false:=(mem_ready.1 hr).1;refine ⟨fun h=>(by rw [h] at hr;cases hr),fun j hj=>?_⟩
   have hjn:j < n:=by
    rcases Nat.lt_or_ge j n with h | h
    · exact h
    · exact absurd hj (tail_bars hs hc inv _ i rfl hin hun j h)
   refine ⟨hjn, ?_⟩
   by_cases hji:j=i
   · subst hji;exact hy.wpOp hi hR s fun w'' r' s'=>⟨s',wpAnyX.mono hT (hT _ _ _ r r') H⟩
   · have h1:=((H w' r s).2 j (ready_mono hj hji)).2;obtain ⟨hjun,oj,hoj,hall⟩:=mem_ready.1 hj;have hnot:∀ e ∈ oj.after,Region.binds md e=true → e.on ≠ i:=by
      intro e he hb heq;have h2:=hall e he hb;rw [heq,getD_both hun] at h2
      cases h2
     have h2:=wpOp_putOn hoj (hfree j oj hoj hji hjun hnot) (fun cs b=>hsel i oi cs b hi) (fun cs b=>hsel j oj cs b hoj) hQ hy h1;refine wpOp_mono ?_ h2;rintro a' w'' ⟨hy',hs',hk⟩;refine ⟨hs',ih (listed.setIfInBounds j true) a' w'' (inv.set hj hjn) hs.set ?_ (ready_mono hr (Ne.symm hji)) hy' ?_⟩
     · intro k ok hk hki hu hno;refine hfree k ok hk hki ?_ hno
       by_cases hjk:j=k
       · subst hjk;exact hjun
       · rw [getD_set_ne true hjk] at hu;exact hu
     · rw [Array.setIfInBounds_comm _ _ hji];exact hk
def takeB (md:Region.Mode) (ops:Array Oper) (n:Nat) (listed:Array Bool) (i:Nat):Bool:=
 Region.noSelect ops && Region.chainB md ops n && headInvB md ops n listed && sinkFrom md ops n listed && decide (i < n) && (Region.ready md ops listed).contains i && Region.free md ops listed i
theorem wpAnyX_take {i:Nat} {oi:Oper} {v:Value} {f:Nat} {listed:Array Bool} {a:Act} {w:World} (hR:∀ w,R w w) (hT:∀ a b c,R a b → R b c → R a c) (hi:ops[i]? = some oi)
    (hb:takeB md ops n listed i=true) (hQ:∀ c a w,Q (.panic c) (a.put oi.dst v) w → Q (.panic c) a w) (hy:YieldsOn P ops S R oi v a)
    (h:wpAnyX P md ops Q S R n G f (listed.setIfInBounds i true) (a.put oi.dst v) w):wpAnyX P md ops Q S R n G (f+1) listed a w:=by
  simp only [takeB,Bool.and_eq_true,decide_eq_true_eq] at hb;obtain ⟨⟨⟨⟨⟨⟨b1,b2⟩,b3⟩,b4⟩,b5⟩,b6⟩,b7⟩:=hb;exact wpAnyX_first hR hT hi (Region.noSelect_spec b1) hQ b2 b5 f listed a w (headInvB_spec b3) (sinkFrom_spec b4) (Region.free_spec hi b7) (by simpa using b6) hy h
theorem wpAnyX_done {l:List Oper} {listed:Array Bool} {a:Act} {w:World} (hb:Region.seqB md l.toArray (l.drop n).length n listed=true)
    (h:∀ w',R w w' → S w' → wpList P l.toArray Q (l.drop n) a w'):wpAnyX P md l.toArray Q S R n (l.drop n).length 0 listed a w:=
  ⟨seqB_ready hb,fun w' r s=>wpAny_of_seq (l.drop n) n listed a w' (fun j=>by simp [List.getElem?_drop]) hb (h w' r s)⟩
theorem wpAny_to_X {l:List Oper} {listed:Array Bool} {a:Act} {w:World} (n f:Nat) (hR:∀ w,R w w) (hS:S w)
    (h:wpAnyX P md l.toArray Q S R n (l.drop n).length f listed a w) {N:Nat} (hN:f+(l.drop n).length=N):wpAny P md l.toArray Q N listed a w:=by
  subst hN;exact wpAny_of_X hR f listed a w hS h
end
section
variable {P:Program} {ops:Array Oper} {Q:Exit → Act → World → Prop} {md:Region.Mode} {S:World → Prop} {n G:Nat}
theorem tkX (i:Nat) {oi:Oper} {v:Value} {f:Nat} {listed:Array Bool} {a:Act} {w:World} (hi:ops[i]? = some oi) (hy:YieldsOn P ops S Ext oi v a) (h:wpAnyX P md ops Q S Ext n G f (listed.setIfInBounds i true) (a.put oi.dst v) w)
    (hb:takeB md ops n listed i=true:=by kernel_rfl) (hQ:∀ c a w,Q (.panic c) (a.put oi.dst v) w → Q (.panic c) a w:=by exact (fun _ _ _ h=>h)):wpAnyX P md ops Q S Ext n G (f+1) listed a w:=
  wpAnyX_take Ext.refl (fun _ _ _=>Ext.trans) hi hb hQ hy h
theorem tkY (i:Nat) {oi:Oper} {v:Value} {f:Nat} {listed:Array Bool} {a:Act} {w:World} (hi:ops[i]? = some oi) (hy:∀ w,S w → (execOp a.eval oi).run P w = .ok (.value v) w) (h:wpAnyX P md ops Q S Ext n G f (listed.setIfInBounds i true) (a.put oi.dst v) w)
    (hw:Region.wanted oi (yielded ops a.tmps)=true:=by rfl) (hb:takeB md ops n listed i=true:=by kernel_rfl) (hQ:∀ c a w,Q (.panic c) (a.put oi.dst v) w → Q (.panic c) a w:=by exact (fun _ _ _ h=>h)):wpAnyX P md ops Q S Ext n G (f+1) listed a w:=
  wpAnyX_take Ext.refl (fun _ _ _=>Ext.trans) hi hb hQ (Or.inl (Or.inl ⟨hw,hy⟩)) h
theorem tkE (i:Nat) {oi:Oper} {v:Value} {f:Nat} {listed:Array Bool} {a:Act} {w:World} (hi:ops[i]? = some oi) (hy:∀ w,S w → (execOp a.eval oi).run P w = .ok (.value v) w) (h:wpAnyX P md ops Q S Eq n G f (listed.setIfInBounds i true) (a.put oi.dst v) w)
    (hw:Region.wanted oi (yielded ops a.tmps)=true:=by rfl) (hb:takeB md ops n listed i=true:=by kernel_rfl) (hQ:∀ c a w,Q (.panic c) (a.put oi.dst v) w → Q (.panic c) a w:=by exact (fun _ _ _ h=>h)):wpAnyX P md ops Q S Eq n G (f+1) listed a w:=
  wpAnyX_take (fun _=>rfl) (fun _ _ _ h k=>h.trans k) hi hb hQ (Or.inl (Or.inl ⟨hw,hy⟩)) h
theorem tkA (i:Nat) {oi:Oper} {v:Value} {fuel:Nat} {listed:Array Bool} {a:Act} {w:World} (hi:ops[i]? = some oi) (hy:∀ w,(execOp a.eval oi).run P w = .ok (.value v) w) (h:wpAny P md ops Q fuel (listed.setIfInBounds i true) (a.put oi.dst v) w)
    (hw:Region.wanted oi (yielded ops a.tmps)=true:=by rfl) (hs:Region.noSelect ops=true:=by kernel_rfl) (hf:Region.free md ops listed i=true:=by kernel_rfl) (hr:(Region.ready md ops listed).contains i=true:=by kernel_rfl) (hQ:∀ c a w,Q (.panic c) (a.put oi.dst v) w → Q (.panic c) a w:=by exact (fun _ _ _ h=>h)):wpAny P md ops Q (fuel+1) listed a w:=
  wpAny_take hi hs hf hr hQ (Or.inl ⟨hw,hy⟩) h
end
open Go.RowKit Go.Maps Go.WideElems Go.ChangeMaps
theorem entry_store {H:Type} {P:Program} {w:World} {t k e:TypeId} {R:Value → Option (DataW H × List MemPlace)} {b:Nat} {es:Array MapEntry} {clock:Nat}
    (K:Keyed P k) (ht:P.underlying t=some (.map k e)) {z:Value} (hz:∀ u:World,(zeroValue e).run P u = .ok z u) (hb:w.heap[b]? = some (.map es clock)) (F:WideElems.Fit P k R es clock)
    {key:Value} {kl:Lit} (hkey:keyOf P k key=some kl) (val:Value) :
    ∃ (v0:Value) (st:Nat) (w1 w2:World),(Instr.mapEntry t (.map (some b)) key).run P w = .ok (.tuple #[v0,goInt st]) w1 ∧ w.mapTurned w1 b ∧
     (Instr.entryStore t (.map (some b)) (goInt st) val).run P w1 = .ok () w2 ∧ (Instr.mapUpdate t (.map (some b)) key val).run P w = .ok () w2:=by
  obtain ⟨s1,s2,_⟩:=F.stamped
  rcases K.find w hkey es.toList F.keys with ⟨h1,_⟩ | ⟨j,e0,h1,h2,h3⟩
  · have hb1:(setBlock w b (.map (es.push ⟨key,z,clock⟩) (clock+1))).heap[b]? = some (.map (es.push ⟨key,z,clock⟩) (clock+1)):=heap_setBlock_same hb _;have hi:(es.push ⟨key,z,clock⟩).findIdx? (fun x=>((x.born:Nat):Int) == ((clock:Nat):Int))=some es.size:=by
     rw [findIdx_arr];refine findIdx_born (l:=(es.push ⟨key,z,clock⟩).toList) (j:=es.size) (e0:=⟨key,z,clock⟩) ?_ (by simp);rw [Array.toList_push,List.map_append,List.nodup_append];refine ⟨s2,by simp, ?_⟩;intro a ha c hc;obtain ⟨x,hx,rfl⟩:=List.mem_map.1 ha;have:=s1 x hx;simp only [List.map_cons,List.map_nil,List.mem_singleton] at hc;omega
    have hm:(es.push ⟨key,z,clock⟩).modify es.size (fun x=>{ x with val:=val })=es.push ⟨key,val,clock⟩:=by
     apply Array.ext';rw [Array.toList_modify,Array.toList_push,Array.toList_push,← Array.length_toList];exact modify_last _ _ _
    refine ⟨z,clock,_,setBlock w b (.map (es.push ⟨key,val,clock⟩) (clock+1)), ?_,⟨es,clock,es.push ⟨key,z,clock⟩,clock+1,hb,rfl⟩, ?_, ?_⟩
    · simp [Instr.mapEntry,run_underlying ht,MapKept.run_getObj_map hb,K.check w false hkey,h1,hz,MapKept.run_setObj_map _ hb,Result.andThen,setBlock]
    · have hs:=MapKept.run_setObj_map (P:=P) (.map (es.push ⟨key,val,clock⟩) (clock+1)) hb1;simp only [Instr.entryStore,Sem.run_bind,MapKept.run_getObj_map hb1,Result.andThen,asInt,asIntOf,goInt];simp [hi,hm,setBlock];exact hs.trans (by simp [setBlock])
    · simp [Instr.mapUpdate,run_underlying ht,MapKept.run_getObj_map hb,K.check w false hkey,h1,MapKept.run_setObj_map _ hb,Result.andThen,setBlock]
  · have hj:es[j]? = some e0:=by simpa using h2
    have hsame:es.modify j (fun x=>{ x with key:=key })=es:=by
     apply Array.ext';rw [Array.toList_modify,modify_eq_set _ _ _ _ h2];have e1:({ e0 with key:=key }:MapEntry)=e0:=by rw [← h3]
     rw [e1];exact set_self _ _ _ h2
    have hb1:(setBlock w b (.map es clock)).heap[b]? = some (.map es clock):=heap_setBlock_same hb _;have hi:es.findIdx? (fun x=>((x.born:Nat):Int) == ((e0.born:Nat):Int))=some j:=by
     rw [findIdx_arr];exact findIdx_born s2 h2
    have hm:es.modify j (fun x=>{ x with val:=val })=es.modify j (fun x=>{ x with key:=key,val:=val }):=by
     apply Array.ext';rw [Array.toList_modify,Array.toList_modify,modify_eq_set _ _ _ _ h2,modify_eq_set _ _ _ _ h2,← h3]
    refine ⟨e0.val,e0.born,setBlock w b (.map es clock),setBlock w b (.map (es.modify j (fun x=>{ x with key:=key,val:=val })) clock), ?_,⟨es,clock,es,clock,hb,rfl⟩, ?_, ?_⟩
    · simp [Instr.mapEntry,run_underlying ht,MapKept.run_getObj_map hb,K.check w false hkey,h1,hj,h3,K.stays w hkey,hsame,MapKept.run_setObj_map _ hb,Result.andThen,setBlock]
    · have hs:=MapKept.run_setObj_map (P:=P) (.map (es.modify j (fun x=>{ x with val:=val })) clock) hb1;simp only [Instr.entryStore,Sem.run_bind,MapKept.run_getObj_map hb1,Result.andThen,asInt,asIntOf,goInt];rw [hm] at hs;simp [hi,hm,setBlock];exact hs.trans (by simp [setBlock])
    · simp [Instr.mapUpdate,run_underlying ht,MapKept.run_getObj_map hb,K.check w false hkey,h1,hj,h3,K.stays w hkey,MapKept.run_setObj_map _ hb,Result.andThen,setBlock]
namespace MapAt
variable {P:Program} {w w':World} {g:Nat} {T:List Nat} {t:TypeId}
theorem enter (h:MapAt P w g T) (hk:P.underlying 3=some (.int .i64)) (he:P.underlying 4=some .bool) (ht:P.underlying t=some (.map 3 4)) (hz:∀ u:World,(zeroValue 4).run P u = .ok (.bool false) u)
    (hn:T.length < maxLen) {a:Nat} (ha:(a:Int) ≤ 9223372036854775807) :
    ∃ (v0:Value) (st:Nat) (w1 w2:World),(Instr.mapEntry t (.map (some g)) (.int .i64 a)).run P w = .ok (.tuple #[v0,goInt st]) w1 ∧ w.mapTurned w1 g ∧
     (Instr.entryStore t (.map (some g)) (goInt st) (.bool true)).run P w1 = .ok () w2 ∧ MapAt P w2 g (Hp.Hs.insert a T) ∧ w.mapTurned w2 g:=by
  have wf:(Lit.int .i64 a).wf=true:=WalkArith.wf_i64 (by omega);obtain ⟨w2,hrun,hm,ht2⟩:=h.put hk he ht hn ha;obtain ⟨es,clock,hb,F,_,_⟩:=h.owns;obtain ⟨v0,st,w1,w2',h1,h2,h3,h4⟩:=entry_store (w:=w) (int_keyed hk) ht hz hb F (keyOf_int_mk hk wf) (.bool true);rw [hrun] at h4
  cases h4
  exact ⟨v0,st,w1,w2,h1,h2,h3,hm,ht2⟩
end MapAt
open Go.RowKit Go.Maps
def mapOfI (M:List (Nat × Int)):DataW Unit:=.map (M.map fun p:Nat × Int=>(Lit.int .i64 (p.1:Int),DataW.lit (.int .i64 p.2)))
def getI (k:Nat):List (Nat × Int) → Option Int
 | []=>none
 | (a,v) :: r=>if a=k then some v else getI k r
def putI (k:Nat) (x:Int):List (Nat × Int) → List (Nat × Int)
 | []=>[(k,x)]
 | (a,v) :: r=>if k < a then (k,x) :: (a,v) :: r else if k=a then (k,x) :: r else (a,v) :: putI k x r
def KeysUp (M:List (Nat × Int)):Prop:=M.Pairwise fun p q=>p.1 < q.1
theorem getI_put {j k:Nat} {x:Int}:∀ {M:List (Nat × Int)},KeysUp M → getI j (putI k x M)=if j=k then some x else getI j M
 | [],_=>by
  unfold putI getI
  by_cases h:j=k
  · subst h;simp
  · rw [if_neg (fun e=>h e.symm),if_neg h];rfl
 | (a,v) :: r,h=>by
  obtain ⟨h1,h2⟩:=List.pairwise_cons.1 h;unfold putI
  split
  · rename_i hlt
    by_cases hj:j=k
    · subst hj;simp [getI]
    · simp only [getI,if_neg hj,if_neg (fun e=>hj (Eq.symm e):¬ k=j)]
  · rename_i hlt
    split
    · rename_i he;subst he
      by_cases hj:j=k
      · subst hj;simp [getI]
      · simp only [getI,if_neg hj,if_neg (fun e=>hj (Eq.symm e):¬ k=j)]
    · rename_i hne;simp only [getI];rw [getI_put h2]
      by_cases hj:j=k
      · subst hj;rw [if_neg (fun e=>hne (Eq.symm e):¬ a=j),if_pos rfl];simp
      · rw [if_neg hj,if_neg hj]
theorem keys_put {k:Nat} {x:Int}:∀ {M:List (Nat × Int)} {p:Nat × Int},p ∈ putI k x M → p.1=k ∨ ∃ q ∈ M,q.1=p.1
 | [],p,h=>by
  have:p=(k,x):=by simpa [putI] using h
  subst this;exact .inl rfl
 | (a,v) :: r,p,h=>by
  unfold putI at h
  split at h
  · rcases List.mem_cons.1 h with rfl | h
    · exact .inl rfl
    · exact .inr ⟨p,h,rfl⟩
  · split at h
    · rcases List.mem_cons.1 h with rfl | h
      · exact .inl rfl
      · exact .inr ⟨p,by simp [h],rfl⟩
    · rcases List.mem_cons.1 h with rfl | h
      · exact .inr ⟨(a,v),by simp,rfl⟩
      · rcases keys_put h with h | ⟨q,hq,e⟩
        · exact .inl h
        · exact .inr ⟨q,by simp [hq],e⟩
theorem keysUp_put {k:Nat} {x:Int}:∀ {M:List (Nat × Int)},KeysUp M → KeysUp (putI k x M)
 | [],_=>by simp [putI,KeysUp]
 | (a,v) :: r,h=>by
  obtain ⟨h1,h2⟩:=List.pairwise_cons.1 h;unfold putI
  split
  · rename_i hlt;refine List.pairwise_cons.2 ⟨fun q hq=>?_,h⟩
    rcases List.mem_cons.1 hq with rfl | hq
    · exact hlt
    · exact Nat.lt_trans hlt (h1 q hq)
  · split
    · rename_i he;subst he;exact List.pairwise_cons.2 ⟨fun q hq=>h1 q hq,h2⟩
    · rename_i hlt hne;refine List.pairwise_cons.2 ⟨fun q hq=>?_,keysUp_put h2⟩
      rcases keys_put hq with e | ⟨q',hq',e⟩
      · simp only [e];omega
      · have:=h1 q' hq';simp only at this ⊢;omega
theorem getI_mem {k:Nat} {v:Int}:∀ {M:List (Nat × Int)},getI k M=some v → ∃ p ∈ M,p.1=k
 | [],h=>by cases h
 | (a,u) :: r,h=>by
  unfold getI at h
  split at h
  · rename_i e;exact ⟨(a,u),by simp,e⟩
  · obtain ⟨p,hp,e⟩:=getI_mem h;exact ⟨p,by simp [hp],e⟩
theorem canon_mapOfI {M:List (Nat × Int)} (h:KeysUp M):Maps.Canon (mapOfI M):=by
 refine ⟨_,rfl, ?_, ?_⟩
 · rw [List.pairwise_map];exact h.imp (fun {a b} hab=>by simpa [Lit.before] using hab)
 · intro p hp;obtain ⟨k,_,rfl⟩:=List.mem_map.1 hp
   trivial
theorem size_mapOfI (M:List (Nat × Int)):Maps.size (mapOfI M)=M.length:=by simp [mapOfI,Maps.size_eq]
theorem at_mapOfI (M:List (Nat × Int)) (k:Nat) (z:DataW Unit):(mapOfI M).atKey (.int .i64 k) z=(match getI k M with | some v=>.lit (.int .i64 v) | none=>z):=by
 unfold mapOfI DataW.atKey
 simp only
 induction M with
 | nil=>rfl
 | cons p r ih=>
  obtain ⟨a,v⟩:=p;rw [List.map_cons,List.find?_cons]
  by_cases e:a=k
  · subst e;simp [Lit.sameKey,getI]
  · have hs:(Lit.int .i64 (a:Int)).sameKey (.int .i64 k)=false:=by
      simp [Lit.sameKey];omega
    simp only [hs,getI,if_neg e];exact ih
theorem has_mapOfI (M:List (Nat × Int)) (k:Lit):Maps.has (mapOfI M) k=true ↔ ∃ n:Nat,k = .int .i64 n ∧ (getI n M).isSome=true:=by
 unfold mapOfI
 rw [has_eq,List.any_eq_true]
 constructor
 · rintro ⟨q,hq,hk⟩;obtain ⟨p,hp,rfl⟩:=List.mem_map.1 hq
   cases k
   case int q b=>
    cases q <;> simp [Lit.sameKey] at hk
    subst hk;refine ⟨p.1,rfl, ?_⟩;clear hq
    induction M with
    | nil=>cases hp
    | cons m r ih=>
     obtain ⟨a,v⟩:=m;unfold getI
     by_cases e:a=p.1
     · rw [if_pos e];rfl
     · rw [if_neg e]
       rcases List.mem_cons.1 hp with rfl | hp
       · exact absurd rfl e
       · exact ih hp
   all_goals simp [Lit.sameKey] at hk
 · rintro ⟨n,rfl,hs⟩;obtain ⟨v,hv⟩:=Option.isSome_iff_exists.1 hs;obtain ⟨p,hp,rfl⟩:=getI_mem hv;exact ⟨_,List.mem_map.2 ⟨p,hp,rfl⟩,by simp [Lit.sameKey]⟩
theorem mapOfI_put {M:List (Nat × Int)} (hs:KeysUp M) (a:Nat) (x:Int) (hc:Canon ((mapOfI M).put (.int .i64 a) (.lit (.int .i64 x)))):(mapOfI M).put (.int .i64 a) (.lit (.int .i64 x))=mapOfI (putI a x M):=by
 have key:∀ k,Maps.has ((mapOfI M).put (.int .i64 a) (.lit (.int .i64 x))) k=Maps.has (mapOfI (putI a x M)) k:=by
  intro k;apply bool_eq;rw [has_mapOfI]
  by_cases e:k = .int .i64 a
  · subst e;rw [has_put_same (D:=mapOfI M) (k:=.int .i64 (a:Int)) ⟨_,rfl⟩ (by exact True.intro)];simp only [true_iff];exact ⟨a,rfl,by rw [getI_put hs,if_pos rfl];rfl⟩
  · rw [has_put_other e,has_mapOfI];constructor
    · rintro ⟨n,rfl,hn⟩;exact ⟨n,rfl,by rw [getI_put hs,if_neg (fun h=>e (by rw [h]))];exact hn⟩
    · rintro ⟨n,rfl,hn⟩;rw [getI_put hs,if_neg (fun h=>e (by rw [h]))] at hn;exact ⟨n,rfl,hn⟩
 refine Maps.ext hc (canon_mapOfI (keysUp_put hs)) key (fun k z hk=>?_)
 rw [key,has_mapOfI] at hk
 obtain ⟨n,rfl,hn⟩:=hk
 rw [at_mapOfI,getI_put hs]
 by_cases e:n=a
 · subst e;rw [if_pos rfl];exact atKey_put_same (k:=.int .i64 (n:Int)) ⟨_,rfl⟩ (by exact True.intro) _ _
 · rw [if_neg e,atKey_put_other (fun h=>e (by cases h;rfl)),at_mapOfI]
structure MapIAt (P:Program) (w:World) (g:Nat) (M:List (Nat × Int)):Prop where
 owns:w.ownsMap P 3 (plainElem (H:=Unit) P 3) g M.length (mapOfI M)
 up:KeysUp M
namespace MapIAt
variable {P:Program} {w w':World} {g:Nat} {M:List (Nat × Int)} {t:TypeId}
theorem lt (h:MapIAt P w g M):g < w.heap.size:=h.owns.lt
theorem ofBlock (h:MapIAt P w g M) (e:w'.heap[g]? = w.heap[g]?):MapIAt P w' g M:=by
 refine ⟨?_,h.up⟩
 obtain ⟨es,clock,hb,r⟩:=h.owns
 exact ⟨es,clock,e.trans hb,r⟩
theorem but (h:MapIAt P w g M) {l:List Nat} (k:But l w w') (hg:g ∉ l):MapIAt P w' g M:=h.ofBlock (k.block g h.lt hg)
theorem ext (h:MapIAt P w g M) (k:Ext w w'):MapIAt P w' g M:=h.ofBlock (k.block g h.lt)
theorem made (w:World):MapIAt P (w.alloc (.map #[] 0)) w.heap.size []:=
 ⟨by simpa [mapOfI] using World.ownsMap_made w P 3 (plainElem (H:=Unit) P 3),List.Pairwise.nil⟩
theorem tight {n:Nat} (h:w.ownsMap P 3 (plainElem (H:=Unit) P 3) g n (mapOfI M)):w.ownsMap P 3 (plainElem (H:=Unit) P 3) g M.length (mapOfI M):=by
 obtain ⟨es,clock,hb,F,hs,hD⟩:=h
 refine ⟨es,clock,hb,F, ?_,hD⟩
 have e:=size_mapOfI M
 rw [hD] at e
 simp [Maps.size,length_sorted] at e
 omega
theorem look (h:MapIAt P w g M) (hk:P.underlying 3=some (.int .i64)) (ht:P.underlying t=some (.map 3 3)) (hz:(zeroValue 3).run P w = .ok (.int .i64 0) w) {k:Nat} (hk2:(k:Int) ≤ 9223372036854775807) :
    (Instr.lookup t (.map (some g)) (.int .i64 k) false).run P w = .ok (.int .i64 ((getI k M).getD 0)) w:=by
  have wf:(Lit.int .i64 k).wf=true:=WalkArith.wf_i64 (by omega);obtain ⟨c,hrun,hat,_⟩:=h.owns.lookup_int (int_keyed hk) ht hk hz (keyOf_int_mk hk wf);rw [hrun];rw [at_mapOfI] at hat
  cases hg:getI k M with
  | none=>
   rw [hg] at hat;simp only at hat;injection hat with hat
   injection hat with _ hat
   rw [← hat];rfl
  | some v=>
   rw [hg] at hat;simp only at hat;injection hat with hat
   injection hat with _ hat
   rw [← hat];rfl
theorem put (h:MapIAt P w g M) (hk:P.underlying 3=some (.int .i64)) (ht:P.underlying t=some (.map 3 3)) (hn:M.length < maxLen) {a:Nat} {x:Int} (ha:(a:Int) ≤ 9223372036854775807) (hx1 : -9223372036854775808 ≤ x) (hx2:x ≤ 9223372036854775807) :
    ∃ w',(Instr.mapUpdate t (.map (some g)) (.int .i64 a) (.int .i64 x)).run P w = .ok () w' ∧ MapIAt P w' g (putI a x M) ∧ w.mapTurned w' g:=by
  have wf:(Lit.int .i64 a).wf=true:=WalkArith.wf_i64 (by omega);have wfx:(Lit.int .i64 x).wf=true:=WalkArith.wf_i64 (by omega);obtain ⟨w',hrun,ho,ht'⟩:=h.owns.store (int_keyed hk) ht hn (keyOf_int_mk hk wf) (plainElem_int hk wfx);refine ⟨w',hrun, ?_,ht'⟩;have hc:=ho.canon (int_keyed hk);rw [mapOfI_put h.up a x hc] at ho;exact ⟨tight ho,keysUp_put h.up⟩
end MapIAt
end Go.Proofs.YtdokmmhjmclmnaaGreat
