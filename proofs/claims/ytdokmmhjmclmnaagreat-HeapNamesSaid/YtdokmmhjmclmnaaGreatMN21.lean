/-
  Part 21 of a proof: HFn54 HN2 LH1.
-/
import Derived.Test.YtdokmmhjmclmnaaGreatMN18
import Derived.Test.YtdokmmhjmclmnaaGreatMN20
set_option linter.unusedSimpArgs false
set_option linter.unusedVariables false
set_option linter.unusedSectionVars false
set_option linter.unnecessarySimpa false
namespace Go.Proofs.YtdokmmhjmclmnaaGreat
open Go.RowKit Go.Maps
theorem Row.words {w:World} {base g c:Nat} {l:List Int} (h:Row w base (some ⟨g,0,none⟩) c l):WordsAt w g l ∧ l.length ≤ c ∧ c ≤ 9223372036854775807:=by
 rcases h.1 with ⟨hx,⟨e,_⟩ | ⟨g',cap,cur,e,h1,hg,h2,h3,h4,h5⟩⟩
 · injection e with e1
   cases e1
 · injection e with e1 e2 e3
   injection e1 with e1
   injection e1 with e1 _ _
   subst e1 e3;rw [Nat.mul_one] at h5;refine ⟨⟨⟨cur.toList.drop l.length, ?_⟩,h.2⟩,h2,by unfold maxLen at h3;omega⟩;rw [← h5,List.take_append_drop];exact hg
theorem load_cut {P:Program} {cd:Code} {Q:Exit → Act → World → Prop} {act:Act} {w W:World} {S:Hp.Hs} {lb hb gw gm n c2 c3 c4 m2 m3:Nat} {p2 p3:Option Addr}
    (_:act.tmps[26]? = some (.agg #[.slice p2 m2 c2,.slice p3 m3 c3,.slice (some ⟨gw,0,none⟩) n c4,.map (some gm)])) (_:act.tmps[27]? = some (.pointer (some ⟨hb,0,none⟩))) (_:act.tmps[29]? = some (.pointer (some ⟨lb,0,none⟩)))
    (h:HAt W ⟨hb,gw,gm,c4,p2,c2,p3,c3⟩ { S with taken:=[] }) (e:Ext w W) (h0:W.cell? ⟨lb,0,none⟩=some (.pointer (some ⟨hb,0,none⟩))) (h1:W.cell? ⟨lb,1,none⟩=some (.slice none 0 0)) (fz:∀ k,W.frozen? ⟨lb,k,none⟩=false)
    (ho:(w.heap.size ≤ hb ∧ w.heap.size ≤ gw ∧ w.heap.size ≤ gm) ∧ (∀ b o,p2=some ⟨b,o,none⟩ → w.heap.size ≤ b ∧ b < lb) ∧ (∀ b o,p3=some ⟨b,o,none⟩ → w.heap.size ≤ b ∧ b < lb) ∧ w.heap.size ≤ lb ∧ hb < lb ∧ gw < lb ∧ gm < lb)
    (k:∀ W',LdAt w W' lb ⟨hb,gw,gm,c4,p2,c2,p3,c3⟩ { S with taken:=[] } (.slice none 0 0) none 0 [] → ((w.heap.size ≤ hb ∧ w.heap.size ≤ gw ∧ w.heap.size ≤ gm) ∧ (∀ b o,p2=some ⟨b,o,none⟩ → w.heap.size ≤ b) ∧ ∀ b o,p3=some ⟨b,o,none⟩ → w.heap.size ≤ b) → cd.wp P Q act W'):cd.wp P Q act W:=by
  obtain ⟨⟨o1,o2,o3⟩,o4,o5,o6,o7,o8,o9⟩:=ho
  refine k W
   { toHAt:=h
     ext0:=e
     h0:=h0
     h1:=h1
     fz:=fz
     r:=Row.nil _ _
     lb0:=o6
     own0:=fun b hb=>by
      simp only [Hd.own,List.mem_cons,List.not_mem_nil,or_false] at hb;omega
     lbn:=fun hb=>by
      simp only [Hd.own,List.mem_cons,List.not_mem_nil,or_false] at hb;omega
     n:=fun b o e=>by cases e
     spn:=fun b o e=>⟨by have:=(o4 b o e).2;omega,fun _ e=>by cases e⟩
     opn:=fun b o e=>⟨by have:=(o5 b o e).2;omega,fun _ e=>by cases e⟩ } ⟨⟨o1,o2,o3⟩,fun b o e=>(o4 b o e).1,fun b o e=>(o5 b o e).1⟩
set_option maxRecDepth 100000 in
set_option maxHeartbeats 16000000 in
theorem Load_stop {w:World} {p q:Option Addr} {c d gb go wc:Nat} {S:Hp.Hs} (hs:SliceAt w p c S.sizes) (ho:SliceAt w q d S.order) (hw':SliceAt w (some ⟨gb,go,none⟩) wc S.words) (hp:0 < S.sizes.length ∨ p=none) (hq:0 < S.order.length ∨ q=none) (fr:Hp.Fr S.sizes) (hol:S.order.length ≤ 1000000) (hlo:17 ≤ S.words.length) (hhi:S.words.length ≤ 1000000) (hno:S.walkFrom S.fuel 17 [] []=some none) (he:Hp.newErr S.sizes S.order S.words.length=0) :
    Calls Tryz.prog 16 #[.slice p S.sizes.length c,.slice q S.order.length d,.slice (some ⟨gb,go,none⟩) S.words.length wc] w fun e w'=>e = .returned (.tuple #[.pointer none,.int .i64 4]) ∧ Ext w w':=by
  have few:=fr.few;have HC:=Lib.hid (he ▸ hcheck_any (words:=(S.words.length:Int)) hs ho hq hol);have HS:=Lib.hid hs;have HO:=Lib.hid ho;have HW:=Lib.hid hw';have HF:=Lib.hid fr;have WK:=Lib.hid hno;clear hs ho he hw' fr hno;have mixed:Tryz.prog.follows .mixedOrders=true:=by kernel_rfl
  have hmm:=@run_makeMap Tryz.prog;go_enter Tryz.func16,Tryz.ntmps16;go_upto_region 4 with (go_at_call 59;refine (HC.out).mono ?_;rintro e w1 ⟨rfl,hb1⟩;obtain ⟨hc1,hf1,hs1⟩:=hb1.cells)
  clear hc1 hf1 hs1
  go_upto_region 5 with (first
   | (go_at_call_of 60 (Value.slice p S.sizes.length c);refine (sClone_any (HS.out.ext (exx)) hp (by omega)).mono ?_;rintro e w2 ⟨p2,c2,rfl,hR2,hb2,hg2⟩)
   | (go_at_call_of 60 (Value.slice q S.order.length d);refine (sClone_any (HO.out.ext (exx)) hq hol).mono ?_;rintro e w3 ⟨p3,c3,rfl,hR3,hb3,hg3⟩)
   | (go_at_call 60;refine (sClone_any (HW.out.ext (exx)) (.inl (by omega)) (by omega)).mono ?_;rintro e w4 ⟨p4,c4,rfl,hR4,hb4,hg4⟩;obtain ⟨g4,rfl⟩:=hg4 (by omega)))
  have q1:=hb1.le;have q2:=hb2.le;have q3:=hb3.le;have q4:=hb4.le
  (try simp at q2)
  (try simp at q3)
  (try simp at q4)
  have r4:=hR4.far rfl
  (try simp at r4)
  have W4:=hR4.words;have l4:=hR4.lt rfl;refine load_cut (S:=S) (w:=w) (by rfl) (by rfl) (by rfl) ?hat ?ext ?h0 ?h1 ?fz ?low ?rest
  case ext=>exact exx
  case h0=>go_simp
  case h1=>go_simp
  case fz=>intro k;go_simp
  case low=>
   refine ⟨⟨?_, ?_, ?_⟩,fun b o e=>?_,fun b o e=>?_, ?_, ?_, ?_, ?_⟩
   · omega
   · omega
   · omega
   · have h1:=hR2.far e;have h2:=hR2.lt e
     (try simp at h1)
     omega
   · have h1:=hR3.far e;have h2:=hR3.lt e
     (try simp at h1)
     omega
   · omega
   · omega
   · omega
   · omega
  case hat=>
   exact
    { c0:=by go_simp
      c1:=by go_simp
      c2:=by go_simp
      c3:=by go_simp
      f2:=by go_simp
      sizes:=(hR2.at_).ext (exx)
      order:=(hR3.at_).ext (exx)
      words:=W4.1.ext (exx)
      le:=W4.2.1
      cap:=W4.2.2
      map:=by
       refine MapAt.ext (map_at w4 _ ?_) ?_
       · (simp;done)
       · exact exx
      below:=by simp
      apart1:=by simp only [ne_eq];omega
      apart2:=by simp only [ne_eq];omega
      apart3:=by simp only [ne_eq];omega
      far1:=fun b o e hm=>by
       have h1:=hR2.far e;have h2:=hR2.lt e
       (try simp at h1)
       simp only [Hd.own,List.mem_cons,List.not_mem_nil,or_false] at hm;omega
      far2:=fun b o e hm=>by
       have h1:=hR3.far e;have h2:=hR3.lt e
       (try simp at h1)
       simp only [Hd.own,List.mem_cons,List.not_mem_nil,or_false] at hm;omega
      pos:=HF.out.pos
      small:=by simp only;omega
      few:=few
      old1:=fun b o e=>by
       have h2:=hR2.lt e;simp;omega
      old2:=fun b o e=>by
       have h2:=hR3.lt e;simp;omega }
  case rest=>
   clear hmm hR2 hR3 hR4 hb1 hb2 hb3 hb4 hg2 hg3 hg4 q1 q2 q3 q4 r4 W4 l4 HC HS HO HW hp hq;intro w9 H9 lo;have N0:=Lib.hid H9;have LO:=Lib.hid lo;clear H9 lo
   go_wp2_with (go_at_call 61;refine (lwalk_any N0.out WK.out).mono ?_;rintro e w10 ⟨hE,⟨_,rfl⟩ | ⟨T,G,p,k,hR,_⟩⟩;rotate_left;cases hR)
   go_ret2
   exact ⟨rfl,hE⟩
end Go.Proofs.YtdokmmhjmclmnaaGreat
