/-
  Part 35 of a proof: ND6 ND7 ND8 NX1 NX2 NM1 NM2.
-/
import Derived.Maps.OwnSet
import Derived.Test.YtdokmmhjmclmnaaGreatMB18
import Derived.Test.YtdokmmhjmclmnaaGreatMB30
import Derived.Test.YtdokmmhjmclmnaaGreatMB34
set_option linter.unusedSimpArgs false
set_option linter.unusedVariables false
set_option linter.unusedSectionVars false
set_option linter.unnecessarySimpa false
namespace Go.Proofs.YtdokmmhjmclmnaaGreat
open Go.RowKit Go.Maps
set_option maxRecDepth 100000 in
set_option maxHeartbeats 4000000 in
theorem vEqual {w:World} {p q:Option Addr} {c d:Nat} {E F:List (Int × Int)} (h:RdN w 2 p c (E.map endC)) (k:RdN w 2 q d (F.map endC)) :
    Calls Tryz.prog 193 #[.slice p E.length c,.slice q F.length d] w fun e w'=>e = .returned (.bool (decide (E=F))) ∧ Ext w w':=by
  have hle:=h.le;have hcap:=h.cap;have hle':=k.le;have hcap':=k.cap;rw [List.length_map] at hle hle'
  by_cases hne:E.length=F.length
  case neg=>
   have e:decide (E=F)=false:=by
    apply decide_eq_false;intro e;exact hne (by rw [e])
   rw [e];clear h k e;generalize E.length=a at *;generalize F.length=b at *;have e1:((a:Int) == (b:Int))=false:=by simpa using (by omega:¬ (a:Int)=b)
   go_enter Tryz.func193,Tryz.ntmps193;go_wp2;go_returns;exact ⟨rfl,exx⟩
  case pos=>
   have H:=Lib.hid h;have K:=Lib.hid k;clear h k;rw [← hne];have HM:=Lib.hid hne;clear hne hle';generalize hL:E.length=n at hle ⊢;have HL:=Lib.hid hL;clear hL;have mixed:Tryz.prog.follows .mixedOrders=true:=by kernel_rfl
   go_enter Tryz.func193,Tryz.ntmps193;go_wp2
   go_loopg [13] n (fun g i wr=>∃ j:Nat,j ≤ n ∧ n-j ≤ g ∧ i = .int .i64 j ∧ Aside (Ext w wr) ∧ Aside (∀ i,i < j → E[i]? = F[i]?))
   case atStart=>exact ⟨0,Nat.zero_le _,by omega,rfl,Ext.refl w,fun m hm=>absurd hm (Nat.not_lt_zero _)⟩
   case round=>
    obtain ⟨j,hj,hg,rfl,HE,HA⟩:=hrel
    by_cases hlt:j < n
    · obtain ⟨f,hf⟩:=get_list (E:=E) (j:=j) (by rw [HL.out];exact hlt);obtain ⟨f',hf'⟩:=get_list (E:=F) (j:=j) (by rw [← HM.out,HL.out];exact hlt);obtain ⟨b,o,rfl,hb,hc⟩:=(H.out.ext HE.out).end_cells (by rw [HL.out];omega);obtain ⟨b',o',rfl,hb',hc'⟩:=(K.out.ext HE.out).end_cells (by rw [← HM.out,HL.out];omega);obtain ⟨g1,g2⟩:=hc j f hf;obtain ⟨k1,k2⟩:=hc' j f' hf';have EQ:=fun u=>eq_val f.1 f.2 f'.1 f'.2 u
      have HF:=Lib.hid hf;have HF':=Lib.hid hf';clear hf hc hf' hc';obtain ⟨f1,f2⟩:=f;obtain ⟨f1',f2'⟩:=f'
      by_cases he:(f1,f2)=(f1',f2')
      · simp only [he,decide_true] at EQ
        cases he
        go_wp2_with fail
        go_region_o
        go_wp2
        go_roundg (n-(j+1))
        case measure=>omega
        case rel=>
         refine ⟨j+1,by omega,by omega,by go_num,(show Aside _ from HE.out.drew),(show Aside _ from fun i hi=>?_)⟩
         by_cases e:i=j
         · subst e;rw [HF.out,HF'.out]
         · exact HA.out i (by omega)
      · simp only [he,decide_false] at EQ
        go_wp2_with fail
        go_region_o
        go_wp2;go_returns;refine ⟨?_,HE.out.drew⟩;have e:decide (E=F)=false:=by
         apply decide_eq_false;rintro rfl;have:=HF.out;rw [HF'.out] at this
         cases this
         exact he rfl
        rw [e];rfl
    · have:j=n:=by omega
      subst this;go_wp2;go_returns;refine ⟨?_,HE.out⟩;have e:decide (E=F)=true:=decide_eq_true (list_eq_of_get HM.out (by rw [HL.out];exact HA.out));rw [e];rfl
set_option maxRecDepth 100000 in
set_option maxHeartbeats 4000000 in
theorem nEqual1 {w:World} {p q:Option Addr} {c e':Nat} {v v':Int} {l l':List Int} (h:SliceAt w p c l) (k:SliceAt w q e' l') :
    Calls Tryz.prog 192 #[.agg #[.int .i64 v,.slice p l.length c],.agg #[.int .i64 v',.slice q l'.length e']] w fun e w'=>e = .returned (.bool (decide ((v,l)=(v',l')))) ∧ Ext w w':=by
  obtain ⟨bs,hbs⟩:∃ b,decide (l=l')=b:=⟨_,rfl⟩
  have SM:=Lib.hid (fun W (hE:Ext w W)=>(by have:=sEqual_any (h.ext hE) (k.ext hE);rw [hbs] at this;exact this:Calls Tryz.prog 101 #[.slice p l.length c,.slice q l'.length e'] W fun e w'=>e = .returned (.bool bs) ∧ Ext W w'))
  by_cases hv:v=v'
  · subst hv;have e:decide ((v,l)=(v,l'))=bs:=by
     rw [← hbs]
     by_cases hl:l=l'
     · subst hl;simp
     · rw [decide_eq_false hl,decide_eq_false (fun e=>hl (Prod.mk.inj e).2)]
    rw [e];clear e hbs h k;generalize l.length=n1 at *;generalize l'.length=n2 at *;have t0:(v == v)=true:=by simp
    go_enter Tryz.func192,Tryz.ntmps192
    go_wp2_with (go_at_call 101;refine (SM.out _ (exx)).mono ?_;rintro e w1 ⟨rfl,hb1⟩;obtain ⟨hc1,hf1,hs1⟩:=hb1.cells)
    go_returns;exact ⟨rfl,exx⟩
  · have t0:(v == v')=false:=by simpa using hv
    have e:decide ((v,l)=(v',l'))=false:=decide_eq_false (fun e=>hv (Prod.mk.inj e).1);rw [e];clear e hbs h k;generalize l.length=n1 at *;generalize l'.length=n2 at *;go_enter Tryz.func192,Tryz.ntmps192
    go_wp2_with fail
    go_returns;exact ⟨rfl,exx⟩
structure NdRd (w:World) (p:Option Addr) (c:Nat) (K:List (Option Addr × Nat)) (N:List (Int × List Int)):Prop where
 n:RdN w 2 p c (List.zipWith nodeC N K)
 kl:K.length=N.length
 ks:∀ (j:Nat) (q:Int × List Int) (k:Option Addr × Nat),N[j]? = some q → K[j]? = some k → SliceAt w k.1 k.2 q.2
theorem DgRd.nd {w:World} {L:DgL} {z o:List Int} {E:List (Int × Int)} {N:List (Int × List Int)} (h:DgRd w L z o E N):NdRd w L.pn L.cn L.K N:=⟨h.n,h.kl,h.ks⟩
theorem NdRd.ext {w w':World} {p:Option Addr} {c:Nat} {K:List (Option Addr × Nat)} {N:List (Int × List Int)} (h:NdRd w p c K N) (k:Ext w w'):NdRd w' p c K N:=⟨h.n.ext k,h.kl,fun j q kk h1 h2=>(h.ks j q kk h1 h2).ext k⟩
theorem NdRd.cells {w:World} {p:Option Addr} {c:Nat} {K:List (Option Addr × Nat)} {N:List (Int × List Int)} (h:NdRd w p c K N) (h0:0 < N.length):∃ b o,p=some ⟨b,o,none⟩ ∧ b < w.heap.size ∧
    ∀ (j:Nat) (q:Int × List Int) (k:Option Addr × Nat),N[j]? = some q → K[j]? = some k → w.cell? ⟨b,o+j * 2,none⟩=some (.int .i64 q.1) ∧ w.cell? ⟨b,o+j * 2+1,none⟩=some (.slice k.1 q.2.length k.2):=by
  obtain ⟨b,o',e,hb,hc⟩:=h.n.cells (by rw [zip_nodeC_len h.kl];exact h0);refine ⟨b,o',e,hb,fun j q k hq hk=>⟨?_, ?_⟩⟩
  · exact hc j _ 0 _ (zip_nodeC_get hq hk) rfl
  · exact hc j _ 1 _ (zip_nodeC_get hq hk) rfl
set_option maxRecDepth 100000 in
set_option maxHeartbeats 8000000 in
theorem nEqualFunc {w:World} {p q:Option Addr} {c e':Nat} {K M:List (Option Addr × Nat)} {N N':List (Int × List Int)} (h:NdRd w p c K N) (k:NdRd w q e' M N') :
    Calls Tryz.prog 194 #[.slice p N.length c,.slice q N'.length e',.func (.func 192) #[] #[]] w fun e w'=>e = .returned (.bool (decide (N=N'))) ∧ Ext w w':=by
  have l4:=h.n.le;have c4:=h.n.cap;have l4':=k.n.le;have c4':=k.n.cap;rw [zip_nodeC_len h.kl] at l4;rw [zip_nodeC_len k.kl] at l4'
  by_cases hne:N.length=N'.length
  case neg=>
   have e:decide (N=N')=false:=decide_eq_false fun e=>hne (by rw [e])
   rw [e];clear h k e;generalize N.length=a at *;generalize N'.length=b at *;have e1:((a:Int) != (b:Int))=true:=by simpa using (by omega:¬ (a:Int)=b)
   go_enter Tryz.func194,Tryz.ntmps194;go_wp2;go_returns;exact ⟨rfl,exx⟩
  case pos=>
   have H:=Lib.hid h;have KK:=Lib.hid k;have HK:=Lib.hid h.kl;have HM:=Lib.hid k.kl;have HN:=Lib.hid hne;have eg:∀ args w,(callFunc 192 args).run Tryz.prog w = .ok (.enter 192 args) w:=enters_of Tryz.func192 (by kernel_rfl) rfl
   clear h k;rw [← hne] at l4' ⊢;clear hne;generalize hL:N.length=n at *;have HL:=Lib.hid hL;clear hL;generalize hres:decide (N=N')=res;have HRES:=Lib.hid hres;clear hres;go_enter Tryz.func194,Tryz.ntmps194
   go_wp2_with fail
   go_loopg [17] n (fun gg i wr=>∃ j:Nat,j ≤ n ∧ n-j ≤ gg ∧ i = .int .i64 j ∧ Aside (Ext w wr) ∧ Aside (∀ i,i < j → N[i]? = N'[i]?))
   case atStart=>exact ⟨0,Nat.zero_le _,by omega,rfl,(show Aside _ from Ext.refl w),(show Aside _ from fun m hm=>absurd hm (Nat.not_lt_zero _))⟩
   case round=>
    obtain ⟨j,hj,hg,rfl,HE,HA⟩:=hrel
    by_cases hlt:j < n
    · obtain ⟨f,hf⟩:=get_list (E:=N) (j:=j) (by rw [HL.out];exact hlt);obtain ⟨f',hf'⟩:=get_list (E:=N') (j:=j) (by rw [← HN.out];exact hlt);obtain ⟨kq,hq⟩:=get_list (E:=K) (j:=j) (by rw [HK.out];exact hlt);obtain ⟨kq',hq'⟩:=get_list (E:=M) (j:=j) (by rw [HM.out,← HN.out];exact hlt);obtain ⟨b,o,rfl,hb,hc⟩:=(H.out.ext HE.out).cells (by rw [HL.out];omega);obtain ⟨b',o',rfl,hb',hc'⟩:=(KK.out.ext HE.out).cells (by rw [← HN.out];omega);obtain ⟨g1,g2⟩:=hc j f kq hf hq;obtain ⟨k1,k2⟩:=hc' j f' kq' hf' hq';have tk:decide ((j:Int) < (n:Int))=true:=decide_eq_true (by omega);have CA:=Lib.hid (fun W (hE:Ext wr W)=>nEqual1 (v:=f.1) (v':=f'.1) (((H.out.ext HE.out).ks j f kq hf hq).ext hE) (((KK.out.ext HE.out).ks j f' kq' hf' hq').ext hE));have HF:=Lib.hid hf;have HF':=Lib.hid hf';clear hf hc hf' hc' hq hq'
      by_cases he:f=f'
      · have e1:decide ((f.1,f.2)=(f'.1,f'.2))=true:=decide_eq_true (by rw [he]);rw [e1] at CA;have HEE:=Lib.hid he;clear he e1
        go_wp2_with (go_at_fn 192;refine (Calls.mono (CA.out _ (exx)) ?_);rintro e w' ⟨rfl,hb9⟩)
        go_roundg (n-(j+1))
        case measure=>omega
        case rel=>
         refine ⟨j+1,by omega,by omega,by go_num,(show Aside _ from HE.out.trans (show Ext wr _ from exx)),(show Aside _ from fun i hi=>?_)⟩
         by_cases e:i=j
         · subst e;rw [HF.out,HF'.out,HEE.out]
         · exact HA.out i (by omega)
      · have e1:decide ((f.1,f.2)=(f'.1,f'.2))=false:=decide_eq_false he;rw [e1] at CA;have er:res=false:=by
         rw [← HRES.out];apply decide_eq_false;rintro rfl;have:=HF.out;rw [HF'.out] at this
         cases this
         exact he rfl
        subst er;clear he e1
        go_wp2_with (go_at_fn 192;refine (Calls.mono (CA.out _ (exx)) ?_);rintro e w' ⟨rfl,hb9⟩)
        go_returns;exact ⟨rfl,HE.out.trans (show Ext wr _ from exx)⟩
    · have tk:decide ((j:Int) < (n:Int))=false:=decide_eq_false (by omega);have hjn:j=n:=by omega
      have er:res=true:=by
       rw [← HRES.out];exact decide_eq_true (list_eq_of_get (by rw [HL.out];exact HN.out) (by rw [HL.out,← hjn];exact HA.out))
      subst er;clear hjn
      go_wp2_with fail
      go_returns;exact ⟨rfl,HE.out⟩
set_option maxRecDepth 100000 in
set_option maxHeartbeats 16000000 in
theorem nEqual {w:World} {L M:DgL} {d e:Nd.Dia} {q1 q2 q3 q4:Bool} (h:DgRd w L d.sizes d.order d.ends d.nodes) (k:DgRd w M e.sizes e.order e.ends e.nodes) (h1:decide (d.sizes=e.sizes)=q1) (h2:decide (d.order=e.order)=q2) (h3:decide (d.ends=e.ends)=q3) (h4:decide (d.nodes=e.nodes)=q4) :
    Calls Tryz.prog 180 #[dgV L d.sizes.length d.order.length d.ends.length d.nodes.length d.root,dgV M e.sizes.length e.order.length e.ends.length e.nodes.length e.root] w fun r w'=>r = .returned (.bool (q1 && (q2 && (q3 && (q4 && (d.root == e.root)))))) ∧ Ext w w':=by
  have Z':=Lib.hid (fun W (hE:Ext w W)=>sEqual_is h1 (h.s.ext hE) (k.s.ext hE));have O':=Lib.hid (fun W (hE:Ext w W)=>sEqual_is h2 (h.o.ext hE) (k.o.ext hE));have V':=Lib.hid (fun W (hE:Ext w W)=>by have:=vEqual (h.e.ext hE) (k.e.ext hE);rw [h3] at this;exact this);have B':=Lib.hid (fun W (hE:Ext w W)=>by have:=nEqualFunc (h.nd.ext hE) (k.nd.ext hE);rw [h4] at this;exact this);unfold dgV DgL.cells;clear h k h1 h2 h3 h4;generalize d.sizes.length=n1 at *;generalize d.order.length=n2 at *;generalize d.ends.length=n3 at *;generalize d.nodes.length=n4 at *;generalize d.root=rt at *;generalize e.sizes.length=m1 at *;generalize e.order.length=m2 at *;generalize e.ends.length=m3 at *;generalize e.nodes.length=m4 at *;generalize e.root=rs at *;have mixed:Tryz.prog.follows .mixedOrders=true:=by kernel_rfl
  cases q1 <;> cases q2 <;> cases q3 <;> cases q4 <;> (
   go_enter Tryz.func180,Tryz.ntmps180
   go_wp2_with (first
    | (have _t:=hb1;go_at_call 101;refine (O'.out _ (exx)).mono ?_;rintro e w2 ⟨rfl,hb2⟩;obtain ⟨hc2,hf2,hs2⟩:=hb2.cells;have y2:w.heap.size < w2.heap.size:=(by have h:=hb2.le;(try simp at h);omega);have x2:w.heap.size+1 < w2.heap.size:=(by have h:=hb2.le;(try simp at h);omega))
    | (go_at_call 101;refine (Z'.out _ (exx)).mono ?_;rintro e w1 ⟨rfl,hb1⟩;obtain ⟨hc1,hf1,hs1⟩:=hb1.cells;have y1:w.heap.size < w1.heap.size:=(by have h:=hb1.le;(try simp at h);omega);have x1:w.heap.size+1 < w1.heap.size:=(by have h:=hb1.le;(try simp at h);omega))
    | (go_at_call 193;refine (V'.out _ (exx)).mono ?_;rintro e w3 ⟨rfl,hb3⟩;obtain ⟨hc3,hf3,hs3⟩:=hb3.cells;have y3:w.heap.size < w3.heap.size:=(by have h:=hb3.le;(try simp at h);omega);have x3:w.heap.size+1 < w3.heap.size:=(by have h:=hb3.le;(try simp at h);omega))
    | (go_at_call 194;refine (B'.out _ (exx)).mono ?_;rintro e w4 ⟨rfl,hb4⟩;obtain ⟨hc4,hf4,hs4⟩:=hb4.cells))
   go_returns;exact ⟨rfl,exx⟩)
structure KeyEnc {κ:Type} (kt:TypeId) (enc:κ → Value) (ok:κ → Prop):Prop where
 keyed:Maps.Keyed Tryz.prog kt
 tot:∀ x,ok x → ∃ kl,keyOf Tryz.prog kt (enc x)=some kl
 inj:∀ x y,enc x=enc y → x=y
def posL {κ:Type} [BEq κ] [LawfulBEq κ] (E:List κ) (x:κ) (z:DataW Unit):DataW Unit:=match E.idxOf? x with | some i=>.lit (.int .i64 (i:Int)) | none=>z
def IxAt {κ:Type} [BEq κ] [LawfulBEq κ] (kt:TypeId) (enc:κ → Value) (w:World) (g:Nat) (E:List κ):Prop:=
 ∃ D:DataW Unit,w.ownsMap Tryz.prog kt (plainElem (H:=Unit) Tryz.prog 3) g E.length D ∧ ∀ (x:κ) (kl:Lit),keyOf Tryz.prog kt (enc x)=some kl → (∀ z,D.atKey kl z=posL E x z) ∧ Maps.has D kl=(E.idxOf? x).isSome
theorem idxOf_snoc {κ:Type} [BEq κ] [LawfulBEq κ] {x y:κ}:∀ {E:List κ},x ∉ E → (E ++ [x]).idxOf? y=if y == x then some E.length else E.idxOf? y
 | [],_=>by
  by_cases h:y=x
  · subst h;simp [List.idxOf?_cons]
  · have h2:(y == x)=false:=by simpa using h
    have h3:(x == y)=false:=by simpa using fun e=>h (Eq.symm e)
    simp [List.idxOf?_cons,h2,h3]
 | a :: r,h=>by
  simp only [List.mem_cons,not_or] at h;rw [List.cons_append,List.idxOf?_cons,List.idxOf?_cons,idxOf_snoc h.2]
  by_cases e:a=y
  · subst e;have h2:(a == x)=false:=by simpa using fun e=>h.1 (Eq.symm e)
    simp [h2]
  · have e':(a == y)=false:=by simpa using e
    by_cases e2:y=x
    · subst e2;simp [e']
    · have h2:(y == x)=false:=by simpa using e2
      simp [e',h2]
namespace IxAt
variable {κ:Type} [BEq κ] [LawfulBEq κ] {kt t:TypeId} {enc:κ → Value} {ok:κ → Prop} {w w':World} {g:Nat} {E:List κ}
theorem made (w:World):IxAt kt enc (w.alloc (.map #[] 0)) w.heap.size ([]:List κ):=
 ⟨_,World.ownsMap_made w Tryz.prog kt (plainElem (H:=Unit) Tryz.prog 3),fun _ _ _=>⟨fun _=>rfl,rfl⟩⟩
theorem lt (h:IxAt kt enc w g E):g < w.heap.size:=by
 obtain ⟨D,h1,_⟩:=h
 exact h1.lt
theorem ofBlock (h:IxAt kt enc w g E) (e:w'.heap[g]? = w.heap[g]?):IxAt kt enc w' g E:=by
 obtain ⟨D,⟨es,clock,hb,r⟩,h2⟩:=h
 exact ⟨D,⟨es,clock,e.trans hb,r⟩,h2⟩
theorem but (h:IxAt kt enc w g E) {l:List Nat} (k:But l w w') (hg:g ∉ l):IxAt kt enc w' g E:=h.ofBlock (k.block g h.lt hg)
theorem ext (h:IxAt kt enc w g E) (k:Ext w w'):IxAt kt enc w' g E:=h.ofBlock (k.block g h.lt)
theorem lookOk (h:IxAt kt enc w g E) (K:KeyEnc kt enc ok) (ht:Tryz.prog.underlying t=some (.map kt 3)) {x:κ} (hx:ok x) :
    (Instr.lookup t (.map (some g)) (enc x) true).run Tryz.prog w = .ok (.tuple #[.int .i64 (match E.idxOf? x with | some i=>(i:Int) | none=>0),.bool (E.idxOf? x).isSome]) w:=by
  obtain ⟨D,h1,h2⟩:=h;obtain ⟨kl,hk⟩:=K.tot x hx;obtain ⟨v,ps,hrun,hv⟩:=h1.look_ok K.keyed ht (Tryz.zeroValue3 w) (plainElem_int Tryz.underlying3 (by decide)) hk;obtain ⟨c,rfl,hc,_⟩:=plainElem_int_inv Tryz.underlying3 hv;obtain ⟨a1,a2⟩:=h2 x kl hk;rw [hrun,a2];rw [a1] at hc;unfold posL at hc
  cases hi:E.idxOf? x with
  | none=>
   rw [hi] at hc;simp only [Prod.mk.injEq,DataW.lit.injEq,Lit.int.injEq,true_and] at hc;rw [← hc.1]
  | some i=>
   rw [hi] at hc;simp only [Prod.mk.injEq,DataW.lit.injEq,Lit.int.injEq,true_and] at hc;rw [← hc.1]
theorem put (h:IxAt kt enc w g E) (K:KeyEnc kt enc ok) (ht:Tryz.prog.underlying t=some (.map kt 3)) {x:κ} (hx:ok x) (hn:E.length ≤ 1000000) (hne:x ∉ E) :
    ∃ w',(Instr.mapUpdate t (.map (some g)) (enc x) (.int .i64 (E.length:Int))).run Tryz.prog w = .ok () w' ∧ IxAt kt enc w' g (E ++ [x]) ∧ w.mapTurned w' g:=by
  obtain ⟨D,h1,h2⟩:=h;obtain ⟨kl,hk⟩:=K.tot x hx;have wf:(Lit.int .i64 (E.length:Int)).wf=true:=WalkArith.wf_i64 (by omega);obtain ⟨w',hrun,ho,ht'⟩:=h1.store K.keyed ht (by unfold maxLen;omega) hk (plainElem_int Tryz.underlying3 wf);have hD:IsMap D:=by
   obtain ⟨es,e,_⟩:=h1.canon K.keyed;exact ⟨es,e⟩
  refine ⟨w',hrun,⟨_,by rw [List.length_append];exact ho,fun y kl' hk'=>?_⟩,ht'⟩;rw [idxOf_snoc hne];unfold posL;rw [idxOf_snoc hne]
  by_cases e:y=x
  · subst e;have:kl'=kl:=by rw [hk] at hk';exact (Option.some.inj hk').symm
    subst this;rw [if_pos (by simp)];exact ⟨fun z=>atKey_put_same hD (K.keyed.key hk) _ _,has_put_same hD (K.keyed.key hk) _⟩
  · have hkl:kl' ≠ kl:=fun e2=>e (K.inj _ _ (K.keyed.inj hk' (e2 ▸ hk)))
    rw [if_neg (by simpa using e),has_put_other hkl];exact ⟨fun z=>by rw [atKey_put_other hkl];exact (h2 y kl' hk').1 z,(h2 y kl' hk').2⟩
end IxAt
open Go.RowKit Go.Maps
theorem nkeyKT:Tryz.prog.keyTypeAt 3 204=true:=by kernel_rfl
theorem nkeyTI:Tryz.prog.tiled 3 204=true:=by kernel_rfl
theorem nkeyLaw:WideMaps.KeyLaw Tryz.prog 204:=deep_law (m:=3) three_le nkeyKT nkeyTI (by rw [Tryz.underlying204])
theorem cellsOf_nkey:Tryz.prog.cellsOf 204=13:=by kernel_rfl
theorem keyType_nkey:Tryz.prog.keyType 204=true:=by kernel_rfl
theorem keyOf_nkey {l:List Int} (hl:l.length=13) (h:∀ x ∈ l,-9223372036854775808 ≤ x ∧ x ≤ 9223372036854775807):∃ k,keyOf Tryz.prog 204 (.agg (ints l).toArray)=some k:=by
 match l,hl with
 | [a0,a1,a2,a3,a4,a5,a6,a7,a8,a9,a10,a11,a12],_=>
  obtain ⟨d,hd⟩:∃ d,Tryz.prog.types.size=d+2:=⟨Tryz.prog.types.size-2,by have:=types_le;omega⟩
  have e:∀ x ∈ [a0,a1,a2,a3,a4,a5,a6,a7,a8,a9,a10,a11,a12],∀ d,Tryz.prog.keyLits (d+1) 3 [.int .i64 x]=some [.int .i64 x]:=fun x hx d=>keyLits_int d (h x hx)
  have arr:∃ k,Tryz.prog.keyLits (d+2) 150 [.int .i64 a1,.int .i64 a2,.int .i64 a3,.int .i64 a4,.int .i64 a5,.int .i64 a6,.int .i64 a7,.int .i64 a8,.int .i64 a9,.int .i64 a10,.int .i64 a11,.int .i64 a12]=some k:=by
   unfold Program.keyLits;rw [Tryz.underlying150];simp only [cellsOf_arr,cellsOf_int];simp [List.range,List.range.loop,e a1 (by simp),e a2 (by simp),e a3 (by simp),e a4 (by simp),e a5 (by simp),e a6 (by simp),e a7 (by simp),e a8 (by simp),e a9 (by simp),e a10 (by simp),e a11 (by simp),e a12 (by simp)]
  obtain ⟨k,hk⟩:=arr;have top:∃ k,Tryz.prog.keyLits (d+3) 204 [.int .i64 a0,.int .i64 a1,.int .i64 a2,.int .i64 a3,.int .i64 a4,.int .i64 a5,.int .i64 a6,.int .i64 a7,.int .i64 a8,.int .i64 a9,.int .i64 a10,.int .i64 a11,.int .i64 a12]=some k:=by
   unfold Program.keyLits;rw [Tryz.underlying204];simp only [cellsOf_nkey];simp [cellsOf_arr,cellsOf_int,e a0 (by simp),hk]
  obtain ⟨k',hk'⟩:=top;unfold keyOf;rw [Tryz.underlying204];simp only;have hf:(Value.agg (ints [a0,a1,a2,a3,a4,a5,a6,a7,a8,a9,a10,a11,a12]).toArray).formed Tryz.prog 204=true:=by
   simp [Value.formed,Tryz.underlying204,cellsOf_nkey,ints]
  rw [keyType_nkey,hf,hd];simp only [Bool.and_self,if_true];rw [show (Value.agg (ints [a0,a1,a2,a3,a4,a5,a6,a7,a8,a9,a10,a11,a12]).toArray).cells.toList=[.int .i64 a0,.int .i64 a1,.int .i64 a2,.int .i64 a3,.int .i64 a4,.int .i64 a5,.int .i64 a6,.int .i64 a7,.int .i64 a8,.int .i64 a9,.int .i64 a10,.int .i64 a11,.int .i64 a12] from rfl,hk'];exact ⟨_,rfl⟩
def encN (l:List Int):Value:=.agg (ints l).toArray
def okN (l:List Int):Prop:=l.length=13 ∧ ∀ x ∈ l,-9223372036854775808 ≤ x ∧ x ≤ 9223372036854775807
theorem keyN:KeyEnc 204 encN okN:=⟨Maps.Keyed.of_law nkeyLaw,fun _ hx=>keyOf_nkey hx.1 hx.2,fun _ _ e=>ints_inj (List.toArray_inj (Value.agg.inj e))⟩
theorem valKT:Tryz.prog.keyTypeAt 3 43=true:=by kernel_rfl
theorem valTI:Tryz.prog.tiled 3 43=true:=by kernel_rfl
theorem valLaw:WideMaps.KeyLaw Tryz.prog 43:=deep_law (m:=3) three_le valKT valTI (by rw [Tryz.underlying43])
theorem cellsOf_val:Tryz.prog.cellsOf 43=2:=by kernel_rfl
theorem cellsOf_u8:Tryz.prog.cellsOf 5=1:=by kernel_rfl
theorem keyType_val:Tryz.prog.keyType 43=true:=by kernel_rfl
def encV (v:Int × Int):Value:=.agg #[.int .u8 v.1,.int .i64 v.2]
def okV (v:Int × Int):Prop:=(0 ≤ v.1 ∧ v.1 ≤ 255) ∧ -9223372036854775808 ≤ v.2 ∧ v.2 ≤ 9223372036854775807
theorem keyLits_u8 (d:Nat) {x:Int} (h:0 ≤ x ∧ x ≤ 255):Tryz.prog.keyLits (d+1) 5 [.int .u8 x]=some [.int .u8 x]:=by
 unfold Program.keyLits
 rw [Tryz.underlying5]
 have wf:(Lit.int .u8 x).wf=true:=WalkArith.wf_u8 (by omega)
 simp [wf]
theorem keyOf_val {v:Int × Int} (h:okV v):∃ k,keyOf Tryz.prog 43 (encV v)=some k:=by
 obtain ⟨f,n⟩:=v
 obtain ⟨h1,h2⟩:=h
 obtain ⟨d,hd⟩:∃ d,Tryz.prog.types.size=d+2:=⟨Tryz.prog.types.size-2,by have:=types_le;omega⟩
 have top:∃ k,Tryz.prog.keyLits (d+3) 43 [.int .u8 f,.int .i64 n]=some k:=by
  unfold Program.keyLits;rw [Tryz.underlying43];simp only [cellsOf_val];simp [cellsOf_u8,cellsOf_int,keyLits_u8 _ h1,keyLits_int _ h2]
 obtain ⟨k',hk'⟩:=top
 unfold keyOf
 rw [Tryz.underlying43]
 simp only
 have hf:(encV (f,n)).formed Tryz.prog 43=true:=by
  simp [encV,Value.formed,Tryz.underlying43,cellsOf_val]
 rw [keyType_val,hf,hd]
 simp only [Bool.and_self,if_true]
 rw [show (encV (f,n)).cells.toList=[.int .u8 f,.int .i64 n] from rfl,hk']
 exact ⟨_,rfl⟩
theorem keyV:KeyEnc 43 encV okV:=⟨Maps.Keyed.of_law valLaw,fun _ hx=>keyOf_val hx,fun x y e=>by
 obtain ⟨a,b⟩:=x
 obtain ⟨c,d⟩:=y
 have:=Value.agg.inj e
 simp at this
 rw [this.1,this.2]⟩
def keyQ (q:Int × List Int):List Int:=q.1 :: (q.2 ++ List.replicate (12-q.2.length) 0)
theorem keyQ_ok {q:Int × List Int} (h1:q.2.length ≤ 12) (h2 : -9223372036854775808 ≤ q.1 ∧ q.1 ≤ 9223372036854775807) (h3:∀ x ∈ q.2,-9223372036854775808 ≤ x ∧ x ≤ 9223372036854775807):okN (keyQ q):=by
 refine ⟨by simp [keyQ];omega,fun x hx=>?_⟩
 unfold keyQ at hx
 rcases List.mem_cons.1 hx with rfl | hx
 · exact h2
 · rcases List.mem_append.1 hx with hx | hx
   · exact h3 x hx
   · rw [List.eq_of_mem_replicate hx];omega
theorem keyQ_inj {q r:Int × List Int} (h:q.1=r.1 → q.2.length=r.2.length) (e:keyQ q=keyQ r):q=r:=by
 unfold keyQ at e
 injection e with e1 e2
 obtain ⟨a,l⟩:=q
 obtain ⟨b,m⟩:=r
 simp only at e1 e2 h
 subst e1
 rw [(List.append_inj e2 (h rfl)).1]
theorem idxOf_map {α β:Type} [BEq α] [LawfulBEq α] [BEq β] [LawfulBEq β] {f:α → β} {x:α}:∀ {E:List α},(∀ y ∈ E,f y=f x → y=x) → (E.map f).idxOf? (f x)=E.idxOf? x
 | [],_=>rfl
 | a :: r,h=>by
  rw [List.map_cons,List.idxOf?_cons,List.idxOf?_cons,idxOf_map (fun y hy=>h y (by simp [hy]))]
  by_cases e:a=x
  · subst e;simp
  · have e2:¬ f a=f x:=fun e2=>e (h a (by simp) e2)
    simp [e,e2]
structure Mkr where
 gm:Nat
 ge:Nat
 gn:Nat
 v0:Value
 v1:Value
 v2:Value
 v3:Value
 v6:Value
structure MkCells (w:World) (i:Mkr) (pe:Option Addr) (ne ce:Nat) (pn:Option Addr) (nn cn:Nat):Prop where
 c0:w.cell? ⟨i.gm,0,none⟩=some i.v0
 c1:w.cell? ⟨i.gm,1,none⟩=some i.v1
 c2:w.cell? ⟨i.gm,2,none⟩=some i.v2
 c3:w.cell? ⟨i.gm,3,none⟩=some i.v3
 c4:w.cell? ⟨i.gm,4,none⟩=some (.slice pe ne ce)
 c5:w.cell? ⟨i.gm,5,none⟩=some (.slice pn nn cn)
 c6:w.cell? ⟨i.gm,6,none⟩=some i.v6
 c7:w.cell? ⟨i.gm,7,none⟩=some (.map (some i.ge))
 c8:w.cell? ⟨i.gm,8,none⟩=some (.map (some i.gn))
 z:∀ o,w.frozen? ⟨i.gm,o,none⟩=false
namespace MkCells
variable {w w':World} {i:Mkr} {pe pn p:Option Addr} {ne ce nn cn n c:Nat}
theorem but (h:MkCells w i pe ne ce pn nn cn) {l:List Nat} (k:But l w w') (hg:i.gm ∉ l):MkCells w' i pe ne ce pn nn cn:=by
 have z:=cell_lt h.c0
 exact ⟨(k.cell z hg 0).trans h.c0,(k.cell z hg 1).trans h.c1,(k.cell z hg 2).trans h.c2,(k.cell z hg 3).trans h.c3,(k.cell z hg 4).trans h.c4,(k.cell z hg 5).trans h.c5,(k.cell z hg 6).trans h.c6,(k.cell z hg 7).trans h.c7,(k.cell z hg 8).trans h.c8,fun o=>(k.frozen z hg o).trans (h.z o)⟩
theorem set4 (h:MkCells w i pe ne ce pn nn cn):MkCells (w.setCell ⟨i.gm,4,none⟩ (.slice p n c)) i p n c pn nn cn:=by
 obtain ⟨a0,a1,a2,a3,a4,a5,a6,a7,a8,z⟩:=h
 exact ⟨by simp [go_sem,a0],by simp [go_sem,a1],by simp [go_sem,a2],by simp [go_sem,a3],by simp [go_sem,a4],by simp [go_sem,a5],by simp [go_sem,a6],by simp [go_sem,a7],by simp [go_sem,a8],fun o=>by simp [go_sem,z]⟩
theorem set5 (h:MkCells w i pe ne ce pn nn cn):MkCells (w.setCell ⟨i.gm,5,none⟩ (.slice p n c)) i pe ne ce p n c:=by
 obtain ⟨a0,a1,a2,a3,a4,a5,a6,a7,a8,z⟩:=h
 exact ⟨by simp [go_sem,a0],by simp [go_sem,a1],by simp [go_sem,a2],by simp [go_sem,a3],by simp [go_sem,a4],by simp [go_sem,a5],by simp [go_sem,a6],by simp [go_sem,a7],by simp [go_sem,a8],fun o=>by simp [go_sem,z]⟩
theorem set6 (h:MkCells w i pe ne ce pn nn cn) (v:Value):MkCells (w.setCell ⟨i.gm,6,none⟩ v) { i with v6:=v } pe ne ce pn nn cn:=by
 obtain ⟨a0,a1,a2,a3,a4,a5,a6,a7,a8,z⟩:=h
 exact ⟨by simp [go_sem,a0],by simp [go_sem,a1],by simp [go_sem,a2],by simp [go_sem,a3],by simp [go_sem,a4],by simp [go_sem,a5],by simp [go_sem,a6],by simp [go_sem,a7],by simp [go_sem,a8],fun o=>by simp [go_sem,z]⟩
end MkCells
structure MkEnds (w:World) (ge:Nat) (E:List (Int × Int)) (pe:Option Addr) (ce:Nat):Prop where
 em:IxAt 43 encV w ge E
 er:RowN w 2 43 pe ce (E.map endC)
theorem MkEnds.but {w w':World} {ge:Nat} {E:List (Int × Int)} {pe:Option Addr} {ce:Nat} (h:MkEnds w ge E pe ce) {l:List Nat} (k:But l w w') (h1:ge ∉ l) (h2:∀ b ∈ blk pe,b ∉ l):MkEnds w' ge E pe ce:=
 ⟨h.em.but k h1,h.er.but k fun b o e=>h2 b (mem_blk e)⟩
structure MkNodes (w:World) (gn:Nat) (N:List (Int × List Int)) (pn:Option Addr) (cn:Nat) (K:List (Nat × Nat)):Prop where
 nm:IxAt 204 encN w gn (N.map keyQ)
 nr:RowN w 2 41 pn cn (List.zipWith (fun q k=>nodeC q (some ⟨k.1,0,none⟩,k.2)) N K)
 kl:K.length=N.length
 ks:∀ (j:Nat) (q:Int × List Int) (k:Nat × Nat),N[j]? = some q → K[j]? = some k → SliceAt w (some ⟨k.1,0,none⟩) k.2 q.2
theorem MkNodes.but {w w':World} {gn:Nat} {N:List (Int × List Int)} {pn:Option Addr} {cn:Nat} {K:List (Nat × Nat)} (h:MkNodes w gn N pn cn K) {l:List Nat} (k:But l w w') (h1:gn ∉ l) (h2:∀ b ∈ blk pn,b ∉ l) (h3:∀ b ∈ K.map Prod.fst,b ∉ l):MkNodes w' gn N pn cn K:=
 ⟨h.nm.but k h1,h.nr.but k fun b o e=>h2 b (mem_blk e),h.kl,fun j q kk hq hk=>(h.ks j q kk hq hk).but k fun b o e=>by
  cases e
  exact h3 _ (List.mem_map.2 ⟨kk,List.mem_of_getElem? hk,rfl⟩)⟩
def Mkr.dyn (i:Mkr) (pe pn:Option Addr):List Nat:=i.gm :: i.ge :: i.gn :: (blk pe ++ blk pn)
structure MkSt (wb w:World) (i:Mkr) (E:List (Int × Int)) (N:List (Int × List Int)) (pe:Option Addr) (ce:Nat) (pn:Option Addr) (cn:Nat) (K:List (Nat × Nat)):Prop where
 ext:Ext wb w
 c:MkCells w i pe E.length ce pn N.length cn
 e:MkEnds w i.ge E pe ce
 n:MkNodes w i.gn N pn cn K
 lo:∀ b,b ∈ i.dyn pe pn ∨ b ∈ K.map Prod.fst → wb.heap.size ≤ b ∧ b < w.heap.size
 nd:i.gm ≠ i.ge ∧ i.gm ≠ i.gn ∧ i.ge ≠ i.gn
 ndp:∀ b ∈ blk pe,b ≠ i.gm ∧ b ≠ i.ge ∧ b ≠ i.gn ∧ b ∉ blk pn ∧ b ∉ K.map Prod.fst
 ndn:∀ b ∈ blk pn,b ≠ i.gm ∧ b ≠ i.ge ∧ b ≠ i.gn ∧ b ∉ K.map Prod.fst
 ndk:∀ b ∈ K.map Prod.fst,b ≠ i.gm ∧ b ≠ i.ge ∧ b ≠ i.gn
namespace MkSt
variable {wb w w':World} {i:Mkr} {E:List (Int × Int)} {N:List (Int × List Int)} {pe pn:Option Addr} {ce cn:Nat} {K:List (Nat × Nat)}
theorem in_m (i:Mkr) (pe pn:Option Addr):i.gm ∈ i.dyn pe pn:=by simp [Mkr.dyn]
theorem in_e (i:Mkr) (pe pn:Option Addr):i.ge ∈ i.dyn pe pn:=by simp [Mkr.dyn]
theorem in_n (i:Mkr) (pe pn:Option Addr):i.gn ∈ i.dyn pe pn:=by simp [Mkr.dyn]
theorem in_pe (i:Mkr) (pe pn:Option Addr) {b:Nat} (h:b ∈ blk pe):b ∈ i.dyn pe pn:=by simp [Mkr.dyn,h]
theorem in_pn (i:Mkr) (pe pn:Option Addr) {b:Nat} (h:b ∈ blk pn):b ∈ i.dyn pe pn:=by simp [Mkr.dyn,h]
theorem far (h:MkSt wb w i E N pe ce pn cn K) {l:List Nat} (k:But l w w') (hw:∀ b ∈ l,wb.heap.size ≤ b) (hl:∀ b ∈ l,b ∉ i.dyn pe pn ∧ b ∉ K.map Prod.fst):MkSt wb w' i E N pe ce pn cn K:=by
 have f2:∀ b ∈ i.dyn pe pn,b ∉ l:=fun b hb hm=>(hl b hm).1 hb
 have f3:∀ b ∈ K.map Prod.fst,b ∉ l:=fun b hb hm=>(hl b hm).2 hb
 exact
  { h with
    ext:=k.toExt h.ext hw
    c:=h.c.but k (f2 _ (in_m _ _ _))
    e:=h.e.but k (f2 _ (in_e _ _ _)) fun b hb=>f2 _ (in_pe _ _ _ hb)
    n:=h.n.but k (f2 _ (in_n _ _ _)) (fun b hb=>f2 _ (in_pn _ _ _ hb)) f3
    lo:=fun b hb=>⟨(h.lo b hb).1,Nat.lt_of_lt_of_le (h.lo b hb).2 k.size⟩ }
theorem ext' (h:MkSt wb w i E N pe ce pn cn K) (k:Ext w w'):MkSt wb w' i E N pe ce pn cn K:=h.far (l:=[]) (But.ofExt k) (by simp) (by simp)
theorem end_ (h:MkSt wb w i E N pe ce pn cn K) {w1 w2:World} {g cap:Nat} {row:Option Nat} {v:Int × Int} (h1:But [i.ge] w w1) (hm:IxAt 43 encV w1 i.ge (E ++ [v])) (hR:RowN w2 2 43 (some ⟨g,0,none⟩) cap (E.map endC ++ [endC v])) (hG:w1.grownBy w2 row) (hrow:∀ r,row=some r → pe=some ⟨r,0,none⟩) (hg:pe=some ⟨g,0,none⟩ ∨ g=w1.heap.size) (hlt:g < w2.heap.size) :
    MkSt wb (w2.setCell ⟨i.gm,4,none⟩ (.slice (some ⟨g,0,none⟩) (E.length+1) cap)) i (E ++ [v]) N (some ⟨g,0,none⟩) cap pn cn K ∧ But (i.gm :: i.ge :: blk pe) w (w2.setCell ⟨i.gm,4,none⟩ (.slice (some ⟨g,0,none⟩) (E.length+1) cap)) ∧ (g ∈ blk pe ∨ w.heap.size ≤ g):=by
  have k2:But (blk pe) w1 w2:=⟨hG.os,hG.tape,hG.output,hG.size,fun j hj hn=>hG.block j hj fun e=>hn (by rw [hrow j e.symm];simp [blk])⟩
  have k12:But (i.ge :: blk pe) w w2:=(h1.mono (l':=i.ge :: blk pe) (by simp)).trans (k2.mono (l':=i.ge :: blk pe) (fun x hx=>by simp [hx]));have k3:But [i.gm] w2 (w2.setCell ⟨i.gm,4,none⟩ (.slice (some ⟨g,0,none⟩) (E.length+1) cap)):=(But.refl _ _).setCell (.inl (by simp)) _;have kb:But (i.gm :: i.ge :: blk pe) w (w2.setCell ⟨i.gm,4,none⟩ (.slice (some ⟨g,0,none⟩) (E.length+1) cap)):=(k12.mono (l':=i.gm :: i.ge :: blk pe) (fun x hx=>by simp only [List.mem_cons] at hx ⊢;exact .inr hx)).trans (k3.mono (l':=i.gm :: i.ge :: blk pe) (fun x hx=>by rw [List.mem_singleton.1 hx];simp));have s1:=h1.size;have hgi:g ∈ blk pe ∨ w.heap.size ≤ g:=hg.imp (fun e=>by rw [e];simp [blk]) (fun e=>by omega);refine ⟨?_,kb,hgi⟩;have gm:=h.lo i.gm (.inl (in_m _ _ _));have ge:=h.lo i.ge (.inl (in_e _ _ _));have gn:=h.lo i.gn (.inl (in_n _ _ _));have sz:w2.heap.size=(w2.setCell ⟨i.gm,4,none⟩ (.slice (some ⟨g,0,none⟩) (E.length+1) cap)).heap.size:=by simp [World.setCell]
  have s2:=k12.size;have gnew:∀ b,b < w.heap.size → b ∉ blk pe → b ≠ g:=fun b hb hn e=>by
   subst e
   rcases hgi with hg | hg
   · exact hn hg
   · omega
  have gblk:∀ b ∈ blk (some (⟨g,0,none⟩:Addr)),b=g:=fun b hb=>by simpa [blk] using hb
  have gmpe:i.gm ∉ blk pe:=fun hm=>(h.ndp _ hm).1 rfl
  have gepe:i.ge ∉ blk pe:=fun hm=>(h.ndp _ hm).2.1 rfl
  have gnpe:i.gn ∉ blk pe:=fun hm=>(h.ndp _ hm).2.2.1 rfl
  exact
   { ext:=kb.toExt h.ext fun b hb=>by
       rcases List.mem_cons.1 hb with rfl | hb
       · exact gm.1
       · rcases List.mem_cons.1 hb with rfl | hb
         · exact ge.1
         · exact (h.lo b (.inl (in_pe _ _ _ hb))).1
     c:=by
      rw [List.length_append];exact (h.c.but k12 (by simp only [List.mem_cons,not_or];exact ⟨h.nd.1,gmpe⟩)).set4
     e:=by
      refine ⟨(hm.but k2 gepe).but k3 (by simpa using h.nd.1.symm), ?_⟩;rw [List.map_append];exact hR.but k3 fun b o e hm=>by
       cases e
       exact gnew _ gm.2 gmpe (List.mem_singleton.1 hm).symm
     n:=h.n.but kb (by simp only [List.mem_cons,not_or];exact ⟨h.nd.2.1.symm,h.nd.2.2.symm,gnpe⟩) (fun b hb=>by simp only [List.mem_cons,not_or];exact ⟨(h.ndn b hb).1,(h.ndn b hb).2.1,fun hm=>(h.ndp b hm).2.2.2.1 hb⟩) (fun b hb=>by simp only [List.mem_cons,not_or];exact ⟨(h.ndk b hb).1,(h.ndk b hb).2.1,fun hm=>(h.ndp b hm).2.2.2.2 hb⟩)
     lo:=fun b hb=>by
      rw [← sz];have old:b ∈ i.dyn pe pn ∨ b ∈ K.map Prod.fst → wb.heap.size ≤ b ∧ b < w2.heap.size:=fun hb=>⟨(h.lo b hb).1,Nat.lt_of_lt_of_le (h.lo b hb).2 s2⟩
      rcases hb with hb | hb
      · simp only [Mkr.dyn,List.mem_cons,List.mem_append] at hb
        rcases hb with hb | hb | hb | hb | hb
        · exact old (.inl (by rw [hb];exact in_m _ _ _))
        · exact old (.inl (by rw [hb];exact in_e _ _ _))
        · exact old (.inl (by rw [hb];exact in_n _ _ _))
        · have:=gblk b hb;subst this
          rcases hgi with hg | hg
          · exact ⟨(h.lo _ (.inl (in_pe _ _ _ hg))).1,hlt⟩
          · exact ⟨by have:=h.ext.le;omega,hlt⟩
        · exact old (.inl (in_pn _ _ _ hb))
      · exact old (.inr hb)
     nd:=h.nd
     ndp:=fun b hb=>by
      have:=gblk b hb;subst this;exact ⟨fun e=>gnew _ gm.2 gmpe e.symm,fun e=>gnew _ ge.2 gepe e.symm,fun e=>gnew _ gn.2 gnpe e.symm,fun hm=>gnew b (h.lo b (.inl (in_pn _ _ _ hm))).2 (fun hx=>(h.ndp b hx).2.2.2.1 hm) rfl,fun hm=>gnew b (h.lo b (.inr hm)).2 (fun hx=>(h.ndp b hx).2.2.2.2 hm) rfl⟩
     ndn:=h.ndn
     ndk:=h.ndk }
theorem node_ (h:MkSt wb w i E N pe ce pn cn K) {w1 w2:World} {g cap g0 c0:Nat} {row:Option Nat} {q:Int × List Int} (h1:But [i.gn] w w1) (hm:IxAt 204 encN w1 i.gn (N.map keyQ ++ [keyQ q])) (hR:RowN w2 2 41 (some ⟨g,0,none⟩) cap (List.zipWith (fun q k=>nodeC q (some ⟨k.1,0,none⟩,k.2)) N K ++ [nodeC q (some ⟨g0,0,none⟩,c0)])) (hG:w1.grownBy w2 row) (hrow:∀ r,row=some r → pn=some ⟨r,0,none⟩) (hg:pn=some ⟨g,0,none⟩ ∨ g=w1.heap.size) (hlt:g < w2.heap.size)
    (hs:SliceAt w (some ⟨g0,0,none⟩) c0 q.2) (h0:wb.heap.size ≤ g0 ∧ g0 < w.heap.size) (h2:g0 ∉ i.dyn pe pn) :
    MkSt wb (w2.setCell ⟨i.gm,5,none⟩ (.slice (some ⟨g,0,none⟩) (N.length+1) cap)) i E (N ++ [q]) pe ce (some ⟨g,0,none⟩) cap (K ++ [(g0,c0)]) ∧ But (i.gm :: i.gn :: blk pn) w (w2.setCell ⟨i.gm,5,none⟩ (.slice (some ⟨g,0,none⟩) (N.length+1) cap)) ∧ (g ∈ blk pn ∨ w.heap.size ≤ g):=by
  have k2:But (blk pn) w1 w2:=⟨hG.os,hG.tape,hG.output,hG.size,fun j hj hn=>hG.block j hj fun e=>hn (by rw [hrow j e.symm];simp [blk])⟩
  have k12:But (i.gn :: blk pn) w w2:=(h1.mono (l':=i.gn :: blk pn) (by simp)).trans (k2.mono (l':=i.gn :: blk pn) (fun x hx=>by simp [hx]));have k3:But [i.gm] w2 (w2.setCell ⟨i.gm,5,none⟩ (.slice (some ⟨g,0,none⟩) (N.length+1) cap)):=(But.refl _ _).setCell (.inl (by simp)) _;have kb:But (i.gm :: i.gn :: blk pn) w (w2.setCell ⟨i.gm,5,none⟩ (.slice (some ⟨g,0,none⟩) (N.length+1) cap)):=(k12.mono (l':=i.gm :: i.gn :: blk pn) (fun x hx=>by simp only [List.mem_cons] at hx ⊢;exact .inr hx)).trans (k3.mono (l':=i.gm :: i.gn :: blk pn) (fun x hx=>by rw [List.mem_singleton.1 hx];simp));have s1:=h1.size;have hgi:g ∈ blk pn ∨ w.heap.size ≤ g:=hg.imp (fun e=>by rw [e];simp [blk]) (fun e=>by omega);refine ⟨?_,kb,hgi⟩;have gm:=h.lo i.gm (.inl (in_m _ _ _));have ge:=h.lo i.ge (.inl (in_e _ _ _));have gn:=h.lo i.gn (.inl (in_n _ _ _));have sz:w2.heap.size=(w2.setCell ⟨i.gm,5,none⟩ (.slice (some ⟨g,0,none⟩) (N.length+1) cap)).heap.size:=by simp [World.setCell]
  have s2:=k12.size;have gnew:∀ b,b < w.heap.size → b ∉ blk pn → b ≠ g:=fun b hb hn e=>by
   subst e
   rcases hgi with hg | hg
   · exact hn hg
   · omega
  have gblk:∀ b ∈ blk (some (⟨g,0,none⟩:Addr)),b=g:=fun b hb=>by simpa [blk] using hb
  have gmpn:i.gm ∉ blk pn:=fun hm=>(h.ndn _ hm).1 rfl
  have gepn:i.ge ∉ blk pn:=fun hm=>(h.ndn _ hm).2.1 rfl
  have gnpn:i.gn ∉ blk pn:=fun hm=>(h.ndn _ hm).2.2.1 rfl
  have g0d:g0 ≠ i.gm ∧ g0 ≠ i.ge ∧ g0 ≠ i.gn ∧ g0 ∉ blk pe ∧ g0 ∉ blk pn:=by
   simpa only [Mkr.dyn,List.mem_cons,List.mem_append,not_or] using h2
  have inK:∀ b ∈ (K ++ [(g0,c0)]).map Prod.fst,b=g0 ∨ b ∈ K.map Prod.fst:=fun b hb=>by
   rw [List.map_append] at hb
   rcases List.mem_append.1 hb with hb | hb
   · exact .inr hb
   · exact .inl (by simpa using hb)
  have gne:g ≠ g0:=fun e=>gnew g0 h0.2 g0d.2.2.2.2 e.symm
  exact
   { ext:=kb.toExt h.ext fun b hb=>by
       rcases List.mem_cons.1 hb with rfl | hb
       · exact gm.1
       · rcases List.mem_cons.1 hb with rfl | hb
         · exact gn.1
         · exact (h.lo b (.inl (in_pn _ _ _ hb))).1
     c:=by
      rw [List.length_append];exact (h.c.but k12 (by simp only [List.mem_cons,not_or];exact ⟨h.nd.2.1,gmpn⟩)).set5
     e:=h.e.but kb (by simp only [List.mem_cons,not_or];exact ⟨h.nd.1.symm,h.nd.2.2,gepn⟩) (fun b hb=>by simp only [List.mem_cons,not_or];exact ⟨(h.ndp b hb).1,(h.ndp b hb).2.2.1,(h.ndp b hb).2.2.2.1⟩)
     n:=by
      refine ⟨?_, ?_,by simp [h.n.kl],fun j q' kk hq hk=>?_⟩
      · rw [List.map_append];exact (hm.but k2 gnpn).but k3 (by simpa using h.nd.2.1.symm)
      · rw [show List.zipWith (fun (q:Int × List Int) (k:Nat × Nat)=>nodeC q (some ⟨k.1,0,none⟩,k.2)) (N ++ [q]) (K ++ [(g0,c0)])=List.zipWith (fun q k=>nodeC q (some ⟨k.1,0,none⟩,k.2)) N K ++ [nodeC q (some ⟨g0,0,none⟩,c0)] by rw [List.zipWith_append h.n.kl.symm];rfl];exact hR.but k3 fun b o e hm=>by
         cases e
         exact gnew _ gm.2 gmpn (List.mem_singleton.1 hm).symm
      · by_cases hj:j < N.length
        · rw [List.getElem?_append_left hj] at hq;rw [List.getElem?_append_left (by rw [h.n.kl];exact hj)] at hk;refine (h.n.ks j q' kk hq hk).but kb fun b o e=>?_
          cases e
          have hb:kk.1 ∈ K.map Prod.fst:=List.mem_map.2 ⟨kk,List.mem_of_getElem? hk,rfl⟩;simp only [List.mem_cons,not_or];exact ⟨(h.ndk _ hb).1,(h.ndk _ hb).2.2,fun hm=>(h.ndn _ hm).2.2.2 hb⟩
        · have ej:j=N.length:=by
            have:=(List.getElem?_eq_some_iff.1 hq).1;simp at this;omega
          subst ej;rw [List.getElem?_append_right (Nat.le_refl _),Nat.sub_self] at hq;rw [List.getElem?_append_right (by rw [h.n.kl];exact Nat.le_refl _),h.n.kl,Nat.sub_self] at hk
          cases hq
          cases hk
          refine hs.but kb fun b o e=>?_
          cases e
          simp only [List.mem_cons,not_or];exact ⟨g0d.1,g0d.2.2.1,g0d.2.2.2.2⟩
     lo:=fun b hb=>by
      rw [← sz];have old:b ∈ i.dyn pe pn ∨ b ∈ K.map Prod.fst → wb.heap.size ≤ b ∧ b < w2.heap.size:=fun hb=>⟨(h.lo b hb).1,Nat.lt_of_lt_of_le (h.lo b hb).2 s2⟩
      rcases hb with hb | hb
      · simp only [Mkr.dyn,List.mem_cons,List.mem_append] at hb
        rcases hb with hb | hb | hb | hb | hb
        · exact old (.inl (by rw [hb];exact in_m _ _ _))
        · exact old (.inl (by rw [hb];exact in_e _ _ _))
        · exact old (.inl (by rw [hb];exact in_n _ _ _))
        · exact old (.inl (in_pe _ _ _ hb))
        · have:=gblk b hb;subst this
          rcases hgi with hg | hg
          · exact ⟨(h.lo _ (.inl (in_pn _ _ _ hg))).1,hlt⟩
          · exact ⟨by have:=h.ext.le;omega,hlt⟩
      · rcases inK b hb with rfl | hb
        · exact ⟨h0.1,by omega⟩
        · exact old (.inr hb)
     nd:=h.nd
     ndp:=fun b hb=>⟨(h.ndp b hb).1,(h.ndp b hb).2.1,(h.ndp b hb).2.2.1,fun hm=>gnew b (h.lo b (.inl (in_pe _ _ _ hb))).2 (h.ndp b hb).2.2.2.1 (gblk b hm),fun hm=>by
      rcases inK b hm with rfl | hm
      · exact g0d.2.2.2.1 hb
      · exact (h.ndp b hb).2.2.2.2 hm⟩
     ndn:=fun b hb=>by
      have:=gblk b hb;subst this;exact ⟨fun e=>gnew _ gm.2 gmpn e.symm,fun e=>gnew _ ge.2 gepn e.symm,fun e=>gnew _ gn.2 gnpn e.symm,fun hm=>by
       rcases inK b hm with e | hm
       · exact gne e
       · exact gnew b (h.lo b (.inr hm)).2 (fun hx=>(h.ndn b hx).2.2.2 hm) rfl⟩
     ndk:=fun b hb=>by
      rcases inK b hb with rfl | hb
      · exact ⟨g0d.1,g0d.2.1,g0d.2.2.1⟩
      · exact h.ndk b hb }
end MkSt
open Go.RowKit Go.Maps
section
variable {P:Program} {ops:Array Oper} {Q:Exit → Act → World → Prop} {md:Region.Mode} {S:World → Prop}
end
theorem wpOp_append_N {ops:Array Oper} {Q:Exit → Act → World → Prop} {i:Nat} {o:Oper} {K:Act → World → Prop} {a:Act} {w:World} (s x:Operand) (T t:TypeId) (hi:ops[i]? = some o)
    (ho:o.op = .call { callee:=.builtin .append,args:=#[s,x],argTypes:=#[T,T] }) (hw:Region.wanted o (yielded ops a.tmps)=true) {z:Value} {n bytes:Nat} (hT:Tryz.prog.underlying T=some (.slice t)) (hinfo:(Tryz.prog.info? t).map (fun i=>(i.zero,i.size,i.bytes))=some (some z,n,bytes)) (hzn:z.cells.size=n) (hn0:0 < n) (hby:bytes ≤ 1000)
    {c b m:Nat} {p:Option Addr} {X:List (List Value)} {y:List Value} (hm:X.length=m) (hs:a.eval s = .slice p m c) (hx:a.eval x = .slice (some ⟨b,0,none⟩) 1 1)
    (hrow:RowN w n t p c X) (hyl:y.length=n) (hy:∀ i v,y[i]? = some v → w.cell? ⟨b,i,none⟩=some v) (hone:∀ v ∈ y,v.oneCell'=true) (hlen:m < 10000000)
    (h:∀ g cap w' row,RowN w' n t (some ⟨g,0,none⟩) cap (X ++ [y]) → w.grownBy w' row → (∀ r,row=some r → p=some ⟨r,0,none⟩) → (p=some ⟨g,0,none⟩ ∨ g=w.heap.size) → g < w'.heap.size → K (a.put o.dst (.slice (some ⟨g,0,none⟩) (m+1) cap)) w'):wpOp Tryz.prog ops Q i K a w:=by
  subst hm;unfold wpOp;simp only [hi];rw [if_pos hw];refine .inl ?_;obtain ⟨i0,hi0,hz0,hz1,hz2⟩:=info_parts hinfo;refine wp_append_lies w s x T ho 0 t i0 z n bytes hT hi0 hz0 hz1 hz2 hzn hn0 _ _ _ hs hrow.own ⟨b,0,none⟩ 1 1 y hx (by rw [hyl,Nat.one_mul]) (fun j u hj=>?_) hone (by omega) (by unfold maxLen;omega) (Nat.le_trans (Nat.mul_le_mul (show X.length+1 ≤ 10000000 by omega) hby) (by decide)) (Nat.zero_le _) _ rfl ?_
  · rw [Addr.add_lit]
    simpa using hy j u hj
  · intro g cap w' hown hgrow hor hlt;have own:=hrow.own_blk;refine h g cap w' _ ⟨by simpa using hown,fun u hu=>?_⟩ hgrow own (hor.imp (own g) id) hlt
    rcases List.mem_append.1 hu with hu | hu
    · exact hrow.len u hu
    · rw [List.mem_singleton.1 hu];exact hyl
end Go.Proofs.YtdokmmhjmclmnaaGreat
