/-
  Part 34 of a proof: ND1 ND2 ND3 ND4 ND5.
-/
import Derived.Test.YtdokmmhjmclmnaaGreatMB03
import Derived.Test.YtdokmmhjmclmnaaGreatMB09
import Derived.Test.YtdokmmhjmclmnaaGreatMB12
import Derived.Test.YtdokmmhjmclmnaaGreatMB33
set_option linter.unusedSimpArgs false
set_option linter.unusedVariables false
set_option linter.unusedSectionVars false
set_option linter.unnecessarySimpa false
namespace Go.Proofs.YtdokmmhjmclmnaaGreat
open Go.RowKit Go.Maps
set_option maxHeartbeats 4000000 in
theorem nIsCell {w:World} (f n:Int) (h0:0 ≤ f) (hn : -9223372036854775808 ≤ n ∧ n ≤ 9223372036854775807) :
    Calls Tryz.prog 188 #[.agg #[.int .u8 f,.int .i64 n]] w fun e w'=>e = .returned (.bool (cellOk (f,n))) ∧ Ext w w':=by
  by_cases hf:f=0
  · subst hf;have e:cellOk (0,n)=Hp.within (-9999) 9999 n:=by unfold cellOk;rw [if_pos rfl]
    have hr : -9223372036854775808 ≤ n ∧ n ≤ 9223372036854775807:=hn
    have hs:∀ t:TypeId,SliceAt ((w.alloc (.cells #[.int .u8 0,.int .i64 n] 43)).alloc (.cells #[.int .i64 n] t)) (some ⟨w.heap.size+1,0,none⟩) 1 [n]:=fun t=>by
     have:=SliceAt.one (w.alloc (.cells #[.int .u8 0,.int .i64 n] 43)) n hr.1 hr.2 t;rw [show (w.alloc (.cells #[.int .u8 0,.int .i64 n] 43)).heap.size=w.heap.size+1 from by simp] at this;exact this
    have e2 : [n].all (fun m=>decide (-9999 ≤ m) && decide (m ≤ 9999))=Hp.within (-9999) 9999 n:=by
     simp only [List.all_cons,List.all_nil,Bool.and_true];rfl
    have W1:=Lib.hid (fun (t:TypeId)=>nWithin_any (hs t) e2);rw [e];generalize Hp.within (-9999) 9999 n=b at *;clear hn hr e e2 hs;go_enter Tryz.func188,Tryz.ntmps188
    go_wp2_with (go_at_call 165;refine (W1.out _).mono ?_;rintro e w1 ⟨rfl,hb1⟩;obtain ⟨hc1,hf1,hs1⟩:=hb1.cells)
    go_returns;exact ⟨rfl,exx⟩
  · have t0:decide (f > 0)=true:=decide_eq_true (by omega)
    by_cases h4:f ≤ 4
    · have t1:decide (f ≤ 4)=true:=decide_eq_true h4;have e:cellOk (f,n)=(n == 0):=by
       unfold cellOk;rw [if_neg hf];simp only [t1,Bool.true_and]
       by_cases hn:n=0
       · simp [hn]
       · simp [hn]
      rw [e];clear e hf h4;go_enter Tryz.func188,Tryz.ntmps188
      go_wp2_with fail
      go_returns;exact ⟨rfl,exx⟩
    · have t1:decide (f ≤ 4)=false:=decide_eq_false h4;have e:cellOk (f,n)=false:=by
       unfold cellOk;rw [if_neg hf];simp only [t1,Bool.false_and]
      rw [e];clear e hf h4;go_enter Tryz.func188,Tryz.ntmps188
      go_wp2_with fail
      go_returns;exact ⟨rfl,exx⟩
theorem nAll1 {w:World} {bx g:Nat} {first cap:Array Value} {x:Int} {b:Bool} (eg:∀ args w,(callFunc g args).run Tryz.prog w = .ok (.enter g args) w) (hc:w.cell? ⟨bx,0,none⟩=some (.func (.func g) first cap))
    (hs:Calls Tryz.prog g (first ++ #[.int .i64 x] ++ cap) w fun e w'=>e = .returned (.bool b) ∧ Ext w w') :
    Calls Tryz.prog 213 #[.int .i64 x,.pointer (some ⟨bx,0,none⟩)] w fun e w'=>e = .returned (.bool (!b)) ∧ Ext w w':=by
  have HS:=Lib.hid hs;clear hs;go_enter Tryz.func213,Tryz.ntmps213
  go_wp2_with (go_at_fn g;refine (Calls.mono HS.out ?_);rintro e w' ⟨rfl,hb'⟩)
  go_returns;exact ⟨rfl,hb'⟩
theorem nAll {w:World} {p:Option Addr} {c g:Nat} {first cap:Array Value} {l:List Int} {is:Int → Bool} {b:Bool} (eg:∀ args w,(callFunc g args).run Tryz.prog w = .ok (.enter g args) w) (h:SliceAt w p c l) (hs:SaysAll w g first cap l is) (hb:l.all is=b) :
    Calls Tryz.prog 189 #[.slice p l.length c,.func (.func g) first cap] w fun e w'=>e = .returned (.bool b) ∧ Ext w w':=by
  rw [all_any] at hb;have key:∀ t,Says (w.alloc (.cells #[.func (.func g) first cap] t)) 213 #[] #[.pointer (some ⟨w.heap.size,0,none⟩)] l (fun x=>!is x):=by
   intro t j x hx hall W hW;have hlt:w.heap.size < (w.alloc (.cells #[.func (.func g) first cap] t)).heap.size:=by simp
   have hc:W.cell? ⟨w.heap.size,0,none⟩=some (.func (.func g) first cap):=by
    rw [hW.cell hlt 0];have:=World.cell?_alloc_mark w #[.func (.func g) first cap] t (0,0) 0;rw [this];rfl
   have:=nAll1 eg hc (hs j x hx (fun i y hi hy=>by simpa using hall i y hi hy) W ((Ext.alloc (Ext.refl w) _).trans hW))
   simpa using this
  have H:=Lib.hid h;have K:=Lib.hid key;clear h hs eg key;subst hb;go_enter Tryz.func189,Tryz.ntmps189
  go_wp2_with (go_at_call 167;refine (sContainsFunc_any (b:=l.any fun x=>!is x) (enters_of Tryz.func213 (by kernel_rfl) rfl) (H.out.ext (Ext.alloc (Ext.refl w) _)) (K.out _) rfl).mono ?_;rintro e w1 ⟨rfl,hb1⟩;obtain ⟨hc1,hf1,hs1⟩:=hb1.cells)
  go_returns;exact ⟨rfl,exx⟩
theorem nAllV1 {w:World} {bx:Nat} (f n:Int) (h0:0 ≤ f) (hn : -9223372036854775808 ≤ n ∧ n ≤ 9223372036854775807) (hc:w.cell? ⟨bx,0,none⟩=some (.func (.func 188) #[] #[])) :
    Calls Tryz.prog 212 #[.agg #[.int .u8 f,.int .i64 n],.pointer (some ⟨bx,0,none⟩)] w fun e w'=>e = .returned (.bool (!cellOk (f,n))) ∧ Ext w w':=by
  have HS:=Lib.hid (fun W=>nIsCell (w:=W) f n h0 hn);have eg:∀ args w,(callFunc 188 args).run Tryz.prog w = .ok (.enter 188 args) w:=enters_of Tryz.func188 (by kernel_rfl) rfl
  generalize cellOk (f,n)=b at *;have zb:=cell_lt hc;go_enter Tryz.func212,Tryz.ntmps212
  go_wp2_with (go_at_fn 188;refine (Calls.mono (HS.out _) ?_);rintro e w' ⟨rfl,hb'⟩)
  go_returns;exact ⟨rfl,exx⟩
def SaysV (w:World) (g:Nat) (cap:Array Value) (E:List (Int × Int)) (q:Int × Int → Bool):Prop:=
 ∀ v ∈ E,∀ W,Ext w W → Calls Tryz.prog g (#[.agg #[.int .u8 v.1,.int .i64 v.2]] ++ cap) W fun e w'=>e = .returned (.bool (q v)) ∧ Ext W w'
def firstV (q:Int × Int → Bool) (l:List (Int × Int)):Int:=match l.findIdx? q with | some i=>i | none=>-1
theorem firstV_hit {l:List (Int × Int)} {q:Int × Int → Bool} {x:Int × Int} {k:Nat} (hk:l[k]? = some x) (hq:q x=true) (h:∀ (i:Nat) y,i < k → l[i]? = some y → q y=false):firstV q l=k:=by
 have e:l.findIdx? q=some k:=by
  rw [List.findIdx?_eq_some_iff_getElem];obtain ⟨hl,he⟩:=List.getElem?_eq_some_iff.1 hk;exact ⟨hl,by rw [he];exact hq,fun j hj=>by rw [h j _ hj (List.getElem?_eq_getElem (by omega))];simp⟩
 simp [firstV,e]
theorem firstV_miss {l:List (Int × Int)} {q:Int × Int → Bool} (h:∀ (i:Nat) y,l[i]? = some y → q y=false):firstV q l = -1:=by
 have e:l.findIdx? q=none:=by
  rw [List.findIdx?_eq_none_iff];intro y hy;obtain ⟨j,hj⟩:=List.mem_iff_getElem?.1 hy;exact h j _ hj
 simp [firstV,e]
theorem firstV_any (q:Int × Int → Bool) (l:List (Int × Int)):decide (0 ≤ firstV q l)=l.any q:=by
 unfold firstV
 cases h:l.findIdx? q with
 | none=>
  have:=List.findIdx?_eq_none_iff.1 h;simp only [show ¬ (0:Int) ≤ -1 by omega,decide_false]
  symm
  rw [List.any_eq_false];intro x hx;rw [this x hx];simp
 | some i=>
  obtain ⟨hl,hq,_⟩:=List.findIdx?_eq_some_iff_getElem.1 h;simp only [Int.natCast_nonneg,decide_true]
  symm
  rw [List.any_eq_true];exact ⟨l[i],List.getElem_mem _,hq⟩
set_option maxHeartbeats 4000000 in
theorem vIndexFunc {w:World} {p:Option Addr} {c g:Nat} {cap:Array Value} {E:List (Int × Int)} {q:Int × Int → Bool} (eg:∀ args w,(callFunc g args).run Tryz.prog w = .ok (.enter g args) w) (h:RdN w 2 p c (E.map endC)) (hs:SaysV w g cap E q) :
    Calls Tryz.prog 223 #[.slice p E.length c,.func (.func g) #[] cap] w fun e w'=>e = .returned (.int .i64 (firstV q E)) ∧ Ext w w':=by
  have hle:=h.le;have hcap:=h.cap;rw [List.length_map] at hle;have H:=Lib.hid h;have HS:=Lib.hid hs;clear h hs;generalize hL:E.length=n at hle ⊢;have HL:=Lib.hid hL;clear hL;go_enter Tryz.func223,Tryz.ntmps223;go_wp2
  go_loopg [8] n (fun gg s8 wr=>∃ kk:Nat,kk ≤ n ∧ n-kk ≤ gg ∧ s8 = .int .i64 kk ∧ Aside (Ext w wr) ∧ Aside (∀ (i:Nat) y,i < kk → E[i]? = some y → q y=false))
  case atStart=>exact ⟨0,Nat.zero_le _,by omega,rfl,Ext.refl w,fun i y hi=>absurd hi (Nat.not_lt_zero _)⟩
  case round=>
   obtain ⟨kk,hkk,hg,rfl,HE,A⟩:=hrel
   by_cases hlt:kk < n
   · obtain ⟨x,hx⟩:=get_list (E:=E) (j:=kk) (by rw [HL.out];exact hlt);obtain ⟨b,o,rfl,hb,hc⟩:=(H.out.ext HE.out).end_cells (by rw [HL.out];omega);obtain ⟨g1,g2⟩:=hc kk x hx;have hcall:=Lib.hid (HS.out x (List.mem_of_getElem? hx) wr HE.out);have HX:=Lib.hid hx;clear hc hx
     cases hq:q x with
     | true=>
      have HQ:=Lib.hid hq;clear hq
      go_wp2_with (go_at_fn g;refine (Calls.mono hcall.out ?_);rintro e w' ⟨rfl,hb'⟩;rw [HQ.out])
      go_returns;exact ⟨by rw [firstV_hit HX.out HQ.out A.out];rfl,HE.out.trans hb'⟩
     | false=>
      have HQ:=Lib.hid hq;clear hq
      go_wp2_with (go_at_fn g;refine (Calls.mono hcall.out ?_);rintro e w' ⟨rfl,hb'⟩;rw [HQ.out])
      go_roundg (n-(kk+1))
      case measure=>omega
      case rel=>
       refine ⟨kk+1,by omega,by omega,by go_num,(show Aside _ from HE.out.trans hb'),(show Aside _ from fun i y hi hy=>?_)⟩
       by_cases e:i=kk
       · subst e;have:=HX.out;rw [hy] at this
         cases this
         exact HQ.out
       · exact A.out i y (by omega) hy
   · have:kk=n:=by omega
     subst this;go_wp2;go_returns;exact ⟨by rw [firstV_miss (fun i y hy=>A.out i y (by have:=(List.getElem?_eq_some_iff.1 hy).1;rw [HL.out] at this;exact this) hy)];rfl,HE.out⟩
theorem vContainsFunc {w:World} {p:Option Addr} {c g:Nat} {cap:Array Value} {E:List (Int × Int)} {q:Int × Int → Bool} {b:Bool} (eg:∀ args w,(callFunc g args).run Tryz.prog w = .ok (.enter g args) w) (h:RdN w 2 p c (E.map endC)) (hs:SaysV w g cap E q) (hb:E.any q=b) :
    Calls Tryz.prog 211 #[.slice p E.length c,.func (.func g) #[] cap] w fun e w'=>e = .returned (.bool b) ∧ Ext w w':=by
  rw [← firstV_any] at hb;have H:=Lib.hid h;have HS:=Lib.hid hs;have EG:=Lib.hid eg;clear h hs eg;subst hb;go_enter Tryz.func211,Tryz.ntmps211
  go_wp2_with (go_at_call 223;refine (vIndexFunc EG.out H.out HS.out).mono ?_;rintro e w1 ⟨rfl,hb1⟩;obtain ⟨hc1,hf1,hs1⟩:=hb1.cells)
  go_returns;exact ⟨rfl,exx⟩
theorem nAllV {w:World} {p:Option Addr} {c:Nat} {E:List (Int × Int)} {b:Bool} (h:RdN w 2 p c (E.map endC)) (hf:∀ v ∈ E,0 ≤ v.1 ∧ -9223372036854775808 ≤ v.2 ∧ v.2 ≤ 9223372036854775807) (hb:E.all cellOk=b) :
    Calls Tryz.prog 187 #[.slice p E.length c,.func (.func 188) #[] #[]] w fun e w'=>e = .returned (.bool b) ∧ Ext w w':=by
  have hb:(!(E.any fun v=>!cellOk v))=b:=by
   rw [← hb,List.all_eq_not_any_not]
  have key:∀ t,SaysV (w.alloc (.cells #[.func (.func 188) #[] #[]] t)) 212 #[.pointer (some ⟨w.heap.size,0,none⟩)] E (fun v=>!cellOk v):=by
   intro t v hv W hW;have hlt:w.heap.size < (w.alloc (.cells #[.func (.func 188) #[] #[]] t)).heap.size:=by simp
   have hc:W.cell? ⟨w.heap.size,0,none⟩=some (.func (.func 188) #[] #[]):=by
    rw [hW.cell hlt 0];have:=World.cell?_alloc_mark w #[.func (.func 188) #[] #[]] t (0,0) 0;rw [this];rfl
   exact nAllV1 v.1 v.2 (hf v hv).1 (hf v hv).2 hc
  have H:=Lib.hid h;have K:=Lib.hid key;clear h hf key;subst hb;go_enter Tryz.func187,Tryz.ntmps187
  go_wp2_with (go_at_call 211;refine (vContainsFunc (b:=E.any fun v=>!cellOk v) (enters_of Tryz.func212 (by kernel_rfl) rfl) (H.out.ext (Ext.alloc (Ext.refl w) _)) (K.out _) rfl).mono ?_;rintro e w1 ⟨rfl,hb1⟩;obtain ⟨hc1,hf1,hs1⟩:=hb1.cells)
  go_returns;exact ⟨rfl,exx⟩
def lsV (L:DgL) (zs os es ns:Nat) (x:Int):Value:=.agg #[.slice L.ps zs L.cs,.slice L.po os L.co,.slice L.ps zs L.cs,.slice L.po os L.co,.slice L.pe es L.ce,.slice L.pn ns L.cn,.int .i64 x]
set_option maxHeartbeats 4000000 in
theorem nEnd {w:World} (k:Int) (h1 : -9223372036854775808 ≤ k) (h2:k < 0) :
    Calls Tryz.prog 198 #[.int .i64 k] w fun e w'=>e = .returned (.int .i64 (-1-k)) ∧ Ext w w':=by
  have s1:IntKind.i64.wrap (-1-k) = -1-k:=IntWalk.i64_in _ (by omega);clear h1 h2;go_enter Tryz.func198,Tryz.ntmps198
  go_wp2_with fail
  go_returns;exact ⟨rfl,exx⟩
set_option maxHeartbeats 4000000 in
theorem nRank {w:World} {s:Value} {q:Option Addr} {c:Nat} {o:List Int} (h:SliceAt w q c o) (v:Int) :
    Calls Tryz.prog 215 #[.agg #[s,.slice q o.length c],.int .i64 v] w fun e w'=>e = .returned (.int .i64 (Hp.index o v)) ∧ Ext w w':=by
  have HI:=Lib.hid (fun W (hE:Ext w W)=>sIndex_any (x:=v) (h.ext hE));clear h;generalize o.length=n at *;generalize Hp.index o v=x at *;go_enter Tryz.func215,Tryz.ntmps215
  go_wp2_with (go_at_call 169;refine (HI.out _ (exx)).mono ?_;rintro e w1 ⟨rfl,hb1⟩;obtain ⟨hc1,hf1,hs1⟩:=hb1.cells)
  go_returns;exact ⟨rfl,exx⟩
def kidN (d:Nd.Dia) (k:Int) (below:Nat) (rk:Int):Bool:=if k < 0 then decide (-1-k < d.ends.length) else decide (k < below) && decide (Hp.index d.order (d.nodeAt k.toNat).1 > rk)
set_option maxRecDepth 100000 in
set_option maxHeartbeats 8000000 in
theorem nIsKid {w:World} {L:DgL} {d:Nd.Dia} (h:DgRd w L d.sizes d.order d.ends d.nodes) (k:Int) (below:Nat) (rk:Int) (hk : -9223372036854775808 ≤ k) (hb:below ≤ d.nodes.length) (hel:d.ends.length ≤ 1000000) :
    Calls Tryz.prog 191 #[lsV L d.sizes.length d.order.length d.ends.length d.nodes.length d.root,.int .i64 k,.int .i64 below,.int .i64 rk] w fun e w'=>e = .returned (.bool (kidN d k below rk)) ∧ Ext w w':=by
  have l3:=h.e.le;have l4:=h.n.le;have c4:=h.n.cap;rw [List.length_map] at l3;rw [zip_nodeC_len h.kl] at l4;have H:=Lib.hid h;have mixed:Tryz.prog.follows .mixedOrders=true:=by kernel_rfl
  unfold lsV
  by_cases h0:k < 0
  · have e:kidN d k below rk=decide (-1-k < (d.ends.length:Int)):=by unfold kidN;rw [if_pos h0]
    rw [e];have tk:decide (k < 0)=true:=decide_eq_true h0;have HE:=Lib.hid (fun W=>nEnd (w:=W) k hk h0);clear e h h0;generalize d.sizes.length=n1 at *;generalize d.order.length=n2 at *;generalize d.ends.length=n3 at *;generalize d.nodes.length=n4 at *;generalize d.root=rt at *;go_enter Tryz.func191,Tryz.ntmps191
    go_wp2_with fail
    refine cut_world (F:=fun W=>Hid (Ext w W) ∧ W.cell? ⟨w.heap.size,4,none⟩=some (.slice L.pe n3 L.ce)) ⟨Lib.hid (exx),by go_simp⟩ ?_;intro w0 ⟨E0,c0⟩;generalize w.heap.size=g at c0 ⊢;have zg:=cell_lt c0
    go_wp2_with fail
    have PR33:=Lib.hid (fun (ww:World) (hSw:Ext w0 ww)=>(hSw.cell zg 4).trans c0);refine wp_region_seq (S:=fun W=>Ext w0 W) (R:=Ext) (by kernel_rfl) Ext.refl ?_ ?_
    · exact exx
    refine' tkL 0 rfl ?h0_1 ?_
    case h0_1=>(intro w q;obtain c0':=PR33.out w q;go_simp;try with_reducible rfl)
    refine layy ?_;refine' tkR 1 (v:=.int .i64 (-1-k)) rfl (Or.inr ⟨by rfl,198,_, ?hx1_2, ?hy1_2⟩) ?rest1_2
    case hx1_2=>(intro w hSw;go_simp;try with_reducible rfl)
    case hy1_2=>exact fun w hE=>(HE.out _).mono (fun _ _ h=>⟨h.1,h.2,Ext.trans hE h.2⟩)
    refine layy ?_;refine' tkL 2 rfl ?h2_3 ?_
    case h2_3=>(intro w q;obtain c0':=PR33.out w q;go_simp;try with_reducible rfl)
    refine layy ?_;refine' tkL 3 rfl ?h3_4 ?_
    case h3_4=>(intro w q;obtain c0':=PR33.out w q;go_simp;try with_reducible rfl)
    refine layy ?_;refine' tkL 4 rfl ?h4_5 ?_
    case h4_5=>(intro w q;obtain c0':=PR33.out w q;go_simp;try with_reducible rfl)
    refine layy ?_;refine' tkL 5 rfl ?h5_6 ?_
    case h5_6=>(intro w q;obtain c0':=PR33.out w q;go_simp;try with_reducible rfl)
    refine layy ?_;refine' tkL 6 rfl ?h6_7 ?_
    case h6_7=>(intro w q;obtain c0':=PR33.out w q;go_simp;try with_reducible rfl)
    refine layy ?_;refine' tkL 7 rfl ?h7_8 ?_
    case h7_8=>(intro w q;obtain c0':=PR33.out w q;go_simp;try with_reducible rfl)
    refine layy ?_;refine wpAnyR_done (by kernel_rfl) ?_ _;intro x1 _ Ex1
    go_wp2_with fail
    go_returns;exact ⟨rfl,E0.out.trans Ex1⟩
  · have tk:decide (k < 0)=false:=decide_eq_false h0;obtain ⟨m,rfl⟩:∃ m:Nat,k=(m:Int):=⟨k.toNat,by omega⟩
    by_cases hlt:m < below
    · obtain ⟨q,hq⟩:=get_list (E:=d.nodes) (j:=m) (by omega);obtain ⟨kk,hkk⟩:=get_list (E:=L.K) (j:=m) (by rw [h.kl];omega);obtain ⟨b,o,hpn,hnb,hc⟩:=h.node_cells (by omega);have g1:=(hc m q kk hq hkk).1;have hqa:d.nodeAt m=q:=by unfold Nd.Dia.nodeAt;rw [hq];rfl
      have e:kidN d (m:Int) below rk=decide (Hp.index d.order q.1 > rk):=by
       unfold kidN;rw [if_neg h0,decide_eq_true (show (m:Int) < (below:Int) by omega),Bool.true_and,Int.toNat_natCast,hqa]
      have tb:decide ((m:Int) < (below:Int))=true:=decide_eq_true (by omega);have RK:=Lib.hid (fun W (hE:Ext w W)=>nRank (s:=.slice L.ps d.sizes.length L.cs) (h.o.ext hE) q.1);have hm4:m < d.nodes.length:=by omega
      rw [e,hpn];clear e h hq hkk hc hqa hpn h0;generalize q.1=qv at *;generalize Hp.index d.order qv=ix at *;generalize d.sizes.length=n1 at *;generalize d.order.length=n2 at *;generalize d.ends.length=n3 at *;generalize d.nodes.length=n4 at *;generalize d.root=rt at *;go_enter Tryz.func191,Tryz.ntmps191
      go_wp2_with fail
      refine cut_world (F:=fun W=>Hid (Ext w W) ∧ W.cell? ⟨w.heap.size,0,none⟩=some (.slice L.ps n1 L.cs) ∧ W.cell? ⟨w.heap.size,1,none⟩=some (.slice L.po n2 L.co) ∧ W.cell? ⟨w.heap.size,5,none⟩=some (.slice (some ⟨b,o,none⟩) n4 L.cn) ∧ W.cell? ⟨b,o+m * 2,none⟩=some (.int .i64 qv)) ⟨Lib.hid (exx),by go_simp,by go_simp,by go_simp,by go_simp⟩ ?_;intro w0 ⟨E0,c0,c1,c5,g1⟩;generalize w.heap.size=g at c0 c1 c5 ⊢;have zg:=cell_lt c0;have zb:=cell_lt g1
      go_wp2_with fail
      have PR34:=Lib.hid (fun (ww:World) (hSw:Ext w0 ww)=>And.intro ((hSw.cell zg 0).trans c0) (And.intro ((hSw.cell zg 1).trans c1) (And.intro ((hSw.cell zg 5).trans c5) ((hSw.cell zb (o+m * 2)).trans g1))));refine wp_region_seq (S:=fun W=>Ext w0 W) (R:=Ext) (by kernel_rfl) Ext.refl ?_ ?_
      · exact exx
      refine' tkL 0 rfl ?h0_9 ?_
      case h0_9=>(intro w q;obtain ⟨c0',c1',c5',g1'⟩:=PR34.out w q;go_simp;try with_reducible rfl)
      refine layy ?_;refine' tkL 1 rfl ?h1_10 ?_
      case h1_10=>(intro w q;obtain ⟨c0',c1',c5',g1'⟩:=PR34.out w q;go_simp;try with_reducible rfl)
      refine layy ?_;refine' tkL 2 rfl ?h2_11 ?_
      case h2_11=>(intro w q;obtain ⟨c0',c1',c5',g1'⟩:=PR34.out w q;go_simp;try with_reducible rfl)
      refine layy ?_;refine' tkL 3 rfl ?h3_12 ?_
      case h3_12=>(intro w q;obtain ⟨c0',c1',c5',g1'⟩:=PR34.out w q;go_simp;try with_reducible rfl)
      refine layy ?_;refine' tkL 4 rfl ?h4_13 ?_
      case h4_13=>(intro w q;obtain ⟨c0',c1',c5',g1'⟩:=PR34.out w q;go_simp;try with_reducible rfl)
      refine layy ?_;refine' tkL 5 rfl ?h5_14 ?_
      case h5_14=>(intro w q;obtain ⟨c0',c1',c5',g1'⟩:=PR34.out w q;go_simp;try with_reducible rfl)
      refine layy ?_;refine' tkL 6 rfl ?h6_15 ?_
      case h6_15=>(intro w q;obtain ⟨c0',c1',c5',g1'⟩:=PR34.out w q;go_simp;try with_reducible rfl)
      refine layy ?_;refine' tkL 7 rfl ?h7_16 ?_
      case h7_16=>(intro w q;obtain ⟨c0',c1',c5',g1'⟩:=PR34.out w q;go_simp;try with_reducible rfl)
      refine layy ?_;refine' tkL 8 rfl ?h8_17 ?_
      case h8_17=>(intro w q;obtain ⟨c0',c1',c5',g1'⟩:=PR34.out w q;go_simp;try with_reducible rfl)
      refine layy ?_;refine' tkL 9 rfl ?h9_18 ?_
      case h9_18=>(intro w q;obtain ⟨c0',c1',c5',g1'⟩:=PR34.out w q;go_simp;try with_reducible rfl)
      refine layy ?_;refine' tkL 10 rfl ?h10_19 ?_
      case h10_19=>(intro w q;obtain ⟨c0',c1',c5',g1'⟩:=PR34.out w q;go_simp;try with_reducible rfl)
      refine layy ?_;refine' tkL 11 rfl ?h11_20 ?_
      case h11_20=>(intro w q;obtain ⟨c0',c1',c5',g1'⟩:=PR34.out w q;go_simp;try with_reducible rfl)
      refine layy ?_;refine' tkL 12 rfl ?h12_21 ?_
      case h12_21=>(intro w q;obtain ⟨c0',c1',c5',g1'⟩:=PR34.out w q;go_simp;try with_reducible rfl)
      refine layy ?_;refine' tkR 13 (v:=.int .i64 ix) rfl (Or.inr ⟨by rfl,215,_, ?hx13_22, ?hy13_22⟩) ?rest13_22
      case hx13_22=>(intro w hSw;go_simp;try with_reducible rfl)
      case hy13_22=>exact fun w hE=>(RK.out _ (E0.out.trans hE)).mono (fun _ _ h=>⟨h.1,h.2,Ext.trans hE h.2⟩)
      refine layy ?_;refine' tkL 14 rfl ?h14_23 ?_
      case h14_23=>(intro w q;obtain ⟨c0',c1',c5',g1'⟩:=PR34.out w q;go_simp;try with_reducible rfl)
      refine layy ?_;refine' tkL 15 rfl ?h15_24 ?_
      case h15_24=>(intro w q;obtain ⟨c0',c1',c5',g1'⟩:=PR34.out w q;go_simp;try with_reducible rfl)
      refine layy ?_;refine' tkL 16 rfl ?h16_25 ?_
      case h16_25=>(intro w q;obtain ⟨c0',c1',c5',g1'⟩:=PR34.out w q;go_simp;try with_reducible rfl)
      refine layy ?_;refine' tkL 17 rfl ?h17_26 ?_
      case h17_26=>(intro w q;obtain ⟨c0',c1',c5',g1'⟩:=PR34.out w q;go_simp;try with_reducible rfl)
      refine layy ?_;refine wpAnyR_done (by kernel_rfl) ?_ _;intro x1 _ Ex1
      go_wp2_with fail
      go_returns;exact ⟨rfl,E0.out.trans Ex1⟩
    · have e:kidN d (m:Int) below rk=false:=by
        unfold kidN;rw [if_neg h0,decide_eq_false (show ¬ (m:Int) < (below:Int) by omega),Bool.false_and]
      have tb:decide ((m:Int) < (below:Int))=false:=decide_eq_false (by omega);rw [e];clear e h h0;generalize d.sizes.length=n1 at *;generalize d.order.length=n2 at *;generalize d.ends.length=n3 at *;generalize d.nodes.length=n4 at *;generalize d.root=rt at *;go_enter Tryz.func191,Tryz.ntmps191
      go_wp2_with fail
      refine cut_world (F:=fun W=>Hid (Ext w W)) (Lib.hid (exx)) ?_;intro w0 E0;generalize w.heap.size=g
      go_wp2_with fail
      refine wp_region_seq (S:=fun W=>Ext w0 W) (R:=Ext) (by kernel_rfl) Ext.refl ?_ ?_
      · exact exx
      refine' tkL 0 rfl ?h0_27 ?_
      case h0_27=>(intro w _;go_simp;try with_reducible rfl)
      refine layy ?_;refine' tkL 1 rfl ?h1_28 ?_
      case h1_28=>(intro w _;go_simp;try with_reducible rfl)
      refine layy ?_;refine' tkL 2 rfl ?h2_29 ?_
      case h2_29=>(intro w _;go_simp;try with_reducible rfl)
      refine layy ?_;refine' tkL 3 rfl ?h3_30 ?_
      case h3_30=>(intro w _;go_simp;try with_reducible rfl)
      refine layy ?_;refine' tkR 4 (v:=undef) rfl (Or.inl (Or.inr ⟨by rfl,rfl⟩)) ?rest4_31;refine layy ?_;refine' tkR 5 (v:=undef) rfl (Or.inl (Or.inr ⟨by rfl,rfl⟩)) ?rest5_32;refine layy ?_;refine' tkR 6 (v:=undef) rfl (Or.inl (Or.inr ⟨by rfl,rfl⟩)) ?rest6_33;refine layy ?_;refine' tkR 7 (v:=undef) rfl (Or.inl (Or.inr ⟨by rfl,rfl⟩)) ?rest7_34;refine layy ?_;refine' tkR 8 (v:=undef) rfl (Or.inl (Or.inr ⟨by rfl,rfl⟩)) ?rest8_35;refine layy ?_;refine' tkR 9 (v:=undef) rfl (Or.inl (Or.inr ⟨by rfl,rfl⟩)) ?rest9_36;refine layy ?_;refine' tkR 10 (v:=undef) rfl (Or.inl (Or.inr ⟨by rfl,rfl⟩)) ?rest10_37;refine layy ?_;refine' tkR 11 (v:=undef) rfl (Or.inl (Or.inr ⟨by rfl,rfl⟩)) ?rest11_38;refine layy ?_;refine' tkR 12 (v:=undef) rfl (Or.inl (Or.inr ⟨by rfl,rfl⟩)) ?rest12_39;refine layy ?_;refine' tkR 13 (v:=undef) rfl (Or.inl (Or.inr ⟨by rfl,rfl⟩)) ?rest13_40;refine layy ?_;refine' tkR 14 (v:=undef) rfl (Or.inl (Or.inr ⟨by rfl,rfl⟩)) ?rest14_41;refine layy ?_;refine' tkR 15 (v:=undef) rfl (Or.inl (Or.inr ⟨by rfl,rfl⟩)) ?rest15_42;refine layy ?_;refine' tkL 16 rfl ?h16_43 ?_
      case h16_43=>(intro w _;go_simp;try with_reducible rfl)
      refine layy ?_;refine' tkL 17 rfl ?h17_44 ?_
      case h17_44=>(intro w _;go_simp;try with_reducible rfl)
      refine layy ?_;refine wpAnyR_done (by kernel_rfl) ?_ _;intro x1 _ Ex1
      go_wp2_with fail
      go_returns;exact ⟨rfl,E0.out.trans Ex1⟩
structure LsAt (W:World) (g:Nat) (L:DgL) (n1 n2 n3 n4:Nat) (rt:Int):Prop where
 c0:W.cell? ⟨g,0,none⟩=some (.slice L.ps n1 L.cs)
 c1:W.cell? ⟨g,1,none⟩=some (.slice L.po n2 L.co)
 c2:W.cell? ⟨g,2,none⟩=some (.slice L.ps n1 L.cs)
 c3:W.cell? ⟨g,3,none⟩=some (.slice L.po n2 L.co)
 c4:W.cell? ⟨g,4,none⟩=some (.slice L.pe n3 L.ce)
 c5:W.cell? ⟨g,5,none⟩=some (.slice L.pn n4 L.cn)
 c6:W.cell? ⟨g,6,none⟩=some (.int .i64 rt)
theorem LsAt.ext {W W':World} {g:Nat} {L:DgL} {n1 n2 n3 n4:Nat} {rt:Int} (h:LsAt W g L n1 n2 n3 n4 rt) (k:Ext W W'):LsAt W' g L n1 n2 n3 n4 rt:=by
 have z:=cell_lt h.c0
 exact ⟨(k.cell z 0).trans h.c0,(k.cell z 1).trans h.c1,(k.cell z 2).trans h.c2,(k.cell z 3).trans h.c3,(k.cell z 4).trans h.c4,(k.cell z 5).trans h.c5,(k.cell z 6).trans h.c6⟩
set_option maxRecDepth 100000 in
set_option maxHeartbeats 8000000 in
theorem nIsBranch1 {w:World} {L:DgL} {d:Nd.Dia} (h:DgRd w L d.sizes d.order d.ends d.nodes) {gd gn gb:Nat} (k:Int) (i:Nat) (v:Int) (hd:LsAt w gd L d.sizes.length d.order.length d.ends.length d.nodes.length d.root) (hn:w.cell? ⟨gn,0,none⟩=some (.int .i64 (i:Int))) (hb:w.cell? ⟨gb,0,none⟩=some (.int .i64 v))
    (hk : -9223372036854775808 ≤ k) (hi:i ≤ d.nodes.length) (hel:d.ends.length ≤ 1000000) :
    Calls Tryz.prog 214 #[.int .i64 k,.pointer (some ⟨gd,0,none⟩),.pointer (some ⟨gn,0,none⟩),.pointer (some ⟨gb,0,none⟩)] w fun e w'=>e = .returned (.bool (kidN d k i (Hp.index d.order v))) ∧ Ext w w':=by
  have KD:=Lib.hid (fun W (hE:Ext w W)=>nIsKid (h.ext hE) k i (Hp.index d.order v) hk hi hel);have RK:=Lib.hid (fun W (hE:Ext w W)=>nRank (s:=.slice L.ps d.sizes.length L.cs) (h.o.ext hE) v);have HD:=Lib.hid hd;have zd:=cell_lt hd.c0;have zn:=cell_lt hn;have zb:=cell_lt hb;have mixed:Tryz.prog.follows .mixedOrders=true:=by kernel_rfl
  unfold lsV at KD;clear h hd;generalize kidN d k i (Hp.index d.order v)=res at *;generalize Hp.index d.order v=ix at *;generalize d.sizes.length=n1 at *;generalize d.order.length=n2 at *;generalize d.ends.length=n3 at *;generalize d.nodes.length=n4 at *;generalize d.root=rt at *;go_enter Tryz.func214,Tryz.ntmps214
  go_wp2_with fail
  refine wp_region_seq (S:=fun W=>Ext w W) (R:=Ext) (by kernel_rfl) Ext.refl ?_ ?_
  · exact exx
  refine' tkL 0 rfl ?h0_1 ?_
  case h0_1=>(intro w hSw;(obtain ⟨s0,s1,s2,s3,s4,s5,s6⟩:=HD.out.ext hSw;have n':=(hSw.cell zn 0).trans hn;have b':=(hSw.cell zb 0).trans hb);go_simp;try with_reducible rfl)
  refine layy ?_;refine' tkL 1 rfl ?h1_2 ?_
  case h1_2=>(intro w hSw;(obtain ⟨s0,s1,s2,s3,s4,s5,s6⟩:=HD.out.ext hSw;have n':=(hSw.cell zn 0).trans hn;have b':=(hSw.cell zb 0).trans hb);go_simp;try with_reducible rfl)
  refine layy ?_;refine' tkL 2 rfl ?h2_3 ?_
  case h2_3=>(intro w hSw;(obtain ⟨s0,s1,s2,s3,s4,s5,s6⟩:=HD.out.ext hSw;have n':=(hSw.cell zn 0).trans hn;have b':=(hSw.cell zb 0).trans hb);go_simp;try with_reducible rfl)
  refine layy ?_;refine' tkL 3 rfl ?h3_4 ?_
  case h3_4=>(intro w hSw;(obtain ⟨s0,s1,s2,s3,s4,s5,s6⟩:=HD.out.ext hSw;have n':=(hSw.cell zn 0).trans hn;have b':=(hSw.cell zb 0).trans hb);go_simp;try with_reducible rfl)
  refine layy ?_;refine' tkL 4 rfl ?h4_5 ?_
  case h4_5=>(intro w hSw;(obtain ⟨s0,s1,s2,s3,s4,s5,s6⟩:=HD.out.ext hSw;have n':=(hSw.cell zn 0).trans hn;have b':=(hSw.cell zb 0).trans hb);go_simp;try with_reducible rfl)
  refine layy ?_;refine' tkL 5 rfl ?h5_6 ?_
  case h5_6=>(intro w hSw;(obtain ⟨s0,s1,s2,s3,s4,s5,s6⟩:=HD.out.ext hSw;have n':=(hSw.cell zn 0).trans hn;have b':=(hSw.cell zb 0).trans hb);go_simp;try with_reducible rfl)
  refine layy ?_;refine' tkL 6 rfl ?h6_7 ?_
  case h6_7=>(intro w hSw;(obtain ⟨s0,s1,s2,s3,s4,s5,s6⟩:=HD.out.ext hSw;have n':=(hSw.cell zn 0).trans hn;have b':=(hSw.cell zb 0).trans hb);go_simp;try with_reducible rfl)
  refine layy ?_;refine' tkR 7 (v:=.int .i64 ix) rfl (Or.inr ⟨by rfl,215,_, ?hx7_8, ?hy7_8⟩) ?rest7_8
  case hx7_8=>(intro w hSw;go_simp;try with_reducible rfl)
  case hy7_8=>exact fun w hE=>(RK.out _ hE).mono (fun _ _ h=>⟨h.1,h.2,Ext.trans hE h.2⟩)
  refine layy ?_;refine' tkR 8 (v:=.bool res) rfl (Or.inr ⟨by rfl,191,_, ?hx8_9, ?hy8_9⟩) ?rest8_9
  case hx8_9=>(intro w hSw;go_simp;try with_reducible rfl)
  case hy8_9=>exact fun w hE=>(KD.out _ hE).mono (fun _ _ h=>⟨h.1,h.2,Ext.trans hE h.2⟩)
  refine layy ?_;refine' tkL 9 rfl ?h9_10 ?_
  case h9_10=>(intro w hSw;(obtain ⟨s0,s1,s2,s3,s4,s5,s6⟩:=HD.out.ext hSw;have n':=(hSw.cell zn 0).trans hn;have b':=(hSw.cell zb 0).trans hb);go_simp;try with_reducible rfl)
  refine layy ?_;refine wpAnyR_done (by kernel_rfl) ?_ _;intro x1 _ Ex1
  go_wp2_with fail
  go_returns;exact ⟨rfl,Ex1⟩
def branchN (d:Nd.Dia) (i:Nat):Bool:=Hp.within 0 ((d.sizes.length:Int)-1) (d.nodeAt i).1 && decide (((d.nodeAt i).2.length:Int)=d.sizes.getD (d.nodeAt i).1.toNat 0) && (d.nodeAt i).2.all (fun k=>kidN d k i (Hp.index d.order (d.nodeAt i).1))
set_option maxRecDepth 100000 in
set_option maxHeartbeats 16000000 in
theorem nIsBranch {w:World} {L:DgL} {d:Nd.Dia} (h:DgRd w L d.sizes d.order d.ends d.nodes) {i:Nat} (hi:i < d.nodes.length) (hel:d.ends.length ≤ 1000000) (hzl:d.sizes.length ≤ 6)
    (hk:∀ q ∈ d.nodes,∀ k ∈ q.2,-9223372036854775808 ≤ k ∧ k ≤ 9223372036854775807) (hv:∀ q ∈ d.nodes,-9223372036854775808 ≤ q.1 ∧ q.1 ≤ 9223372036854775807) :
    Calls Tryz.prog 190 #[lsV L d.sizes.length d.order.length d.ends.length d.nodes.length d.root,.int .i64 (i:Int)] w fun e w'=>e = .returned (.bool (branchN d i)) ∧ Ext w w':=by
  obtain ⟨q,hq⟩:=get_list (E:=d.nodes) (j:=i) hi;obtain ⟨⟨kp,kc⟩,hkk⟩:=get_list (E:=L.K) (j:=i) (by rw [h.kl];exact hi);obtain ⟨b,o,hpn,hnb,hc⟩:=h.node_cells (by omega);obtain ⟨g1,g2⟩:=hc i q _ hq hkk;simp only at g2;have hqa:d.nodeAt i=q:=by unfold Nd.Dia.nodeAt;rw [hq];rfl
  have SK:=Lib.hid (h.ks i q _ hq hkk);simp only at SK;have HKR:=Lib.hid (hk q (List.mem_of_getElem? hq));have HVR:=hv q (List.mem_of_getElem? hq);have B1:=Lib.hid (fun W (hE:Ext w W) gd gn gb k hd hn hb hk=>nIsBranch1 (h.ext hE) (gd:=gd) (gn:=gn) (gb:=gb) k i q.1 hd hn hb hk (Nat.le_of_lt hi) hel);have H:=Lib.hid h;have hbr:branchN d i=(Hp.within 0 ((d.sizes.length:Int)-1) q.1 && decide ((q.2.length:Int)=d.sizes.getD q.1.toNat 0) && q.2.all (fun k=>kidN d k i (Hp.index d.order q.1))):=by
   unfold branchN;rw [hqa]
  have HBR:=Lib.hid hbr;have kl:=SK.out.le;have kcap:=SK.out.cap;have l4:=h.n.le;have c4:=h.n.cap;rw [zip_nodeC_len h.kl] at l4;have mixed:Tryz.prog.follows .mixedOrders=true:=by kernel_rfl
  unfold lsV;have tlt:i < d.nodes.length:=hi;have HPN:=Lib.hid hpn;rw [hpn];clear h hq hkk hc hqa hk hv hi hbr hpn;generalize branchN d i=res at *;obtain ⟨v,ks⟩:=q;simp only at g1 g2 SK HKR HVR B1 HBR kl kcap;generalize h1:d.sizes.length=n1 at *;generalize h2:d.order.length=n2 at *;generalize h3:d.ends.length=n3 at *;generalize h4:d.nodes.length=n4 at *;generalize hrt:d.root=rt at *;have H1:=Lib.hid h1;clear h1 h2 h3 h4 hrt;have sb:IntKind.i64.wrap ((n1:Int)-1)=(n1:Int)-1:=IntWalk.i64_in _ (by omega);go_enter Tryz.func190,Tryz.ntmps190
  go_wp2_with fail
  refine cut_world (F:=fun W=>Hid (Ext w W) ∧ LsAt W w.heap.size L n1 n2 n3 n4 rt ∧ W.cell? ⟨w.heap.size+1,0,none⟩=some (.int .i64 (i:Int)) ∧ W.cell? ⟨w.heap.size+1+1,0,none⟩=some (.int .i64 v) ∧ W.cell? ⟨w.heap.size+1+1,1,none⟩=some (.slice kp ks.length kc)) ⟨Lib.hid (exx),⟨by go_simp,by go_simp,by go_simp,by go_simp,by go_simp,by rw [HPN.out];go_simp,by go_simp⟩,by go_simp,by go_simp,by go_simp⟩ ?_;intro w0 ⟨E0,D0',m0,b0,b1⟩;have D0:=Lib.hid D0';generalize w.heap.size+1+1=gb at b0 b1 ⊢;generalize w.heap.size+1=gn at m0 ⊢;generalize w.heap.size=gd at D0' D0 ⊢;have zd:=cell_lt D0'.c0;have zn:=cell_lt m0;have zb:=cell_lt b0;have d0:=D0'.c0;clear D0' g1 g2
  cases hw:Hp.within 0 ((n1:Int)-1) v with
  | false=>
   have e:res=false:=by rw [HBR.out,hw];rfl
   subst e;have e2 : [v].all (fun m=>decide (0 ≤ m) && decide (m ≤ (n1:Int)-1))=false:=by
    simp only [List.all_cons,List.all_nil,Bool.and_true];exact hw
   clear hw HBR;have PR35:=Lib.hid (fun (ww:World) (hSw:Ext w0 ww)=>And.intro ((hSw.cell zd 0).trans d0) ((hSw.cell zb 0).trans b0));refine wp_region_seq (S:=fun W=>Ext w0 W) (R:=Ext) (by kernel_rfl) Ext.refl ?_ ?_
   · exact exx
   refine' tkL 0 rfl ?h0_1 ?_
   case h0_1=>(intro w q;obtain ⟨d0',b0'⟩:=PR35.out w q;go_simp;try with_reducible rfl)
   refine layy ?_;refine' tkL 1 rfl ?h1_2 ?_
   case h1_2=>(intro w q;obtain ⟨d0',b0'⟩:=PR35.out w q;go_simp;try with_reducible rfl)
   refine layy ?_;refine' tkL 2 rfl ?h2_3 ?_
   case h2_3=>(intro w q;obtain ⟨d0',b0'⟩:=PR35.out w q;go_simp;try with_reducible rfl)
   refine layy ?_;refine' tkL 3 rfl ?h3_4 ?_
   case h3_4=>(intro w q;obtain ⟨d0',b0'⟩:=PR35.out w q;go_simp;try with_reducible rfl)
   refine layy ?_;refine' tkL 4 rfl ?h4_5 ?_
   case h4_5=>(intro w q;obtain ⟨d0',b0'⟩:=PR35.out w q;go_simp;try with_reducible rfl)
   refine layy ?_;refine' tkL 5 rfl ?h5_6 ?_
   case h5_6=>(intro w q;obtain ⟨d0',b0'⟩:=PR35.out w q;go_simp;try with_reducible rfl)
   refine layy ?_;refine' tkL 6 rfl ?h6_7 ?_
   case h6_7=>(intro w q;obtain ⟨d0',b0'⟩:=PR35.out w q;go_simp;try with_reducible rfl)
   refine layy ?_;refine wpAnyR_do1 7 (fun u w''=>∃ g,u = .slice (some ⟨g,0,none⟩) 1 1 ∧ Ext w0 w'' ∧ SliceAt w'' (some ⟨g,0,none⟩) 1 [v]) rfl (by kernel_rfl) (by rfl) ?run7 ?vs7 ?next7
   case run7=>
    intro w' hE hS;refine .inr ⟨.slice (some ⟨w'.heap.size,0,none⟩) 1 1,w'.alloc (.cells #[.int .i64 v] 3), ?_,⟨_,rfl,((Ext.drew (Ext.refl w0)).trans hE).trans (Ext.alloc (Ext.refl _) _),SliceAt.one w' v HVR.1 HVR.2 _⟩⟩;go_simp
   case vs7=>
    rintro u w'' ⟨g,_,hE,_⟩ W hW;exact hE.trans hW
   case next7=>
    rintro u w1 ⟨g,rfl,hE1,hS1⟩;have WI:=Lib.hid (fun W (hE:Ext w1 W)=>nWithin_any (least:=0) (most:=(n1:Int)-1) (hS1.ext hE) e2);have d1:=(hE1.cell zd 0).trans d0;have f1:=(hE1.cell zb 0).trans b0;have zd1:=cell_lt d1;have zb1:=cell_lt f1;refine layy ?_;refine' tkR 8 (v:=.bool false) rfl (Or.inr ⟨by rfl,165,_, ?hx8_8, ?hy8_8⟩) ?rest8_8
    case hx8_8=>(intro w hSw;go_simp;try with_reducible rfl)
    case hy8_8=>exact fun w hE=>(WI.out _ hE).mono (fun _ _ h=>⟨h.1,h.2,Ext.trans hE h.2⟩)
    refine layy ?_;refine' tkL 9 rfl ?h9_9 ?_
    case h9_9=>(intro w hSw;(have d1':=(hSw.cell zd1 0).trans d1;have b1':=(hSw.cell zb1 0).trans f1);go_simp;try with_reducible rfl)
    refine layy ?_;refine' tkL 10 rfl ?h10_10 ?_
    case h10_10=>(intro w hSw;(have d1':=(hSw.cell zd1 0).trans d1;have b1':=(hSw.cell zb1 0).trans f1);go_simp;try with_reducible rfl)
    refine layy ?_;refine' tkR 11 (v:=undef) rfl (Or.inl (Or.inr ⟨by rfl,rfl⟩)) ?rest11_11;refine layy ?_;refine' tkR 12 (v:=undef) rfl (Or.inl (Or.inr ⟨by rfl,rfl⟩)) ?rest12_12;refine layy ?_;refine' tkR 13 (v:=undef) rfl (Or.inl (Or.inr ⟨by rfl,rfl⟩)) ?rest13_13;refine layy ?_;refine' tkR 14 (v:=undef) rfl (Or.inl (Or.inr ⟨by rfl,rfl⟩)) ?rest14_14;refine layy ?_;refine' tkR 15 (v:=undef) rfl (Or.inl (Or.inr ⟨by rfl,rfl⟩)) ?rest15_15;refine layy ?_;refine' tkR 16 (v:=undef) rfl (Or.inl (Or.inr ⟨by rfl,rfl⟩)) ?rest16_16;refine layy ?_;refine' tkR 17 (v:=undef) rfl (Or.inl (Or.inr ⟨by rfl,rfl⟩)) ?rest17_17;refine layy ?_;refine' tkR 18 (v:=undef) rfl (Or.inl (Or.inr ⟨by rfl,rfl⟩)) ?rest18_18;refine layy ?_;refine' tkR 19 (v:=undef) rfl (Or.inl (Or.inr ⟨by rfl,rfl⟩)) ?rest19_19;refine layy ?_;refine' tkR 20 (v:=undef) rfl (Or.inl (Or.inr ⟨by rfl,rfl⟩)) ?rest20_20;refine layy ?_;refine' tkR 21 (v:=undef) rfl (Or.inl (Or.inr ⟨by rfl,rfl⟩)) ?rest21_21;refine layy ?_;refine' tkL 22 rfl ?h22_22 ?_
    case h22_22=>(intro w hSw;(have d1':=(hSw.cell zd1 0).trans d1;have b1':=(hSw.cell zb1 0).trans f1);go_simp;try with_reducible rfl)
    refine layy ?_;refine wpAnyR_done (by kernel_rfl) ?_ _;intro x1 _ Ex1
    go_wp2_with fail
    go_returns;exact ⟨rfl,(E0.out.trans hE1).trans Ex1⟩
  | true=>
   have hwi:0 ≤ v ∧ v ≤ (n1:Int)-1:=by simpa [Hp.within] using hw
   have e2 : [v].all (fun m=>decide (0 ≤ m) && decide (m ≤ (n1:Int)-1))=true:=by
    simp only [List.all_cons,List.all_nil,Bool.and_true];exact hw
   have e3:=HBR.out;rw [hw] at e3;clear hw HBR;obtain ⟨m,rfl⟩:∃ m:Nat,v=(m:Int):=⟨v.toNat,by omega⟩
   obtain ⟨sz,hsz⟩:=rd_get (l:=d.sizes) (j:=m) (by rw [H1.out];omega);obtain ⟨bs,os,hps,hbs,hcs⟩:=(H.out.s.ext E0.out).cells (by rw [H1.out];omega);have gs:=hcs m sz hsz;have hml:m < n1:=by omega
   have hgd:d.sizes.getD m 0=sz:=by rw [List.getD_eq_getElem?_getD,show d.sizes[m]? = some sz from hsz];rfl
   rw [Int.toNat_natCast,hgd,Bool.true_and] at e3;have HE3:=Lib.hid e3;rw [hps] at d0;clear hcs hsz hps hwi hgd e3;have ZZ:True:=trivial
   by_cases hne:(ks.length:Int)=sz
   · have t0:((ks.length:Int) != sz)=false:=by simpa using hne
     have e4:res=ks.all (fun k=>kidN d k i (Hp.index d.order (m:Int))):=by rw [HE3.out,decide_eq_true hne,Bool.true_and]
     have HE4:=Lib.hid e4;clear e4 hne HE3;have PR36:=Lib.hid (fun (ww:World) (hSw:Ext w0 ww)=>And.intro ((hSw.cell zd 0).trans d0) ((hSw.cell zb 0).trans b0));refine wp_region_seq (S:=fun W=>Ext w0 W) (R:=Ext) (by kernel_rfl) Ext.refl ?_ ?_
     · exact exx
     refine' tkL 0 rfl ?h0_23 ?_
     case h0_23=>(intro w q;obtain ⟨d0',b0'⟩:=PR36.out w q;go_simp;try with_reducible rfl)
     refine layy ?_;refine' tkL 1 rfl ?h1_24 ?_
     case h1_24=>(intro w q;obtain ⟨d0',b0'⟩:=PR36.out w q;go_simp;try with_reducible rfl)
     refine layy ?_;refine' tkL 2 rfl ?h2_25 ?_
     case h2_25=>(intro w q;obtain ⟨d0',b0'⟩:=PR36.out w q;go_simp;try with_reducible rfl)
     refine layy ?_;refine' tkL 3 rfl ?h3_26 ?_
     case h3_26=>(intro w q;obtain ⟨d0',b0'⟩:=PR36.out w q;go_simp;try with_reducible rfl)
     refine layy ?_;refine' tkL 4 rfl ?h4_27 ?_
     case h4_27=>(intro w q;obtain ⟨d0',b0'⟩:=PR36.out w q;go_simp;try with_reducible rfl)
     refine layy ?_;refine' tkL 5 rfl ?h5_28 ?_
     case h5_28=>(intro w q;obtain ⟨d0',b0'⟩:=PR36.out w q;go_simp;try with_reducible rfl)
     refine layy ?_;refine' tkL 6 rfl ?h6_29 ?_
     case h6_29=>(intro w q;obtain ⟨d0',b0'⟩:=PR36.out w q;go_simp;try with_reducible rfl)
     refine layy ?_;refine wpAnyR_do1 7 (fun u w''=>∃ g,u = .slice (some ⟨g,0,none⟩) 1 1 ∧ Ext w0 w'' ∧ SliceAt w'' (some ⟨g,0,none⟩) 1 [(m:Int)]) rfl (by kernel_rfl) (by rfl) ?run7 ?vs7 ?next7
     case run7=>
      intro w' hE hS;refine .inr ⟨.slice (some ⟨w'.heap.size,0,none⟩) 1 1,w'.alloc (.cells #[.int .i64 (m:Int)] 3), ?_,⟨_,rfl,((Ext.drew (Ext.refl w0)).trans hE).trans (Ext.alloc (Ext.refl _) _),SliceAt.one w' m HVR.1 HVR.2 _⟩⟩;go_simp
     case vs7=>
      rintro u w'' ⟨g,_,hE,_⟩ W hW;exact hE.trans hW
     case next7=>
      rintro u w1 ⟨g,rfl,hE1,hS1⟩;have WI:=Lib.hid (fun W (hE:Ext w1 W)=>nWithin_any (least:=0) (most:=(n1:Int)-1) (hS1.ext hE) e2);have d1:=(hE1.cell zd 0).trans d0;have f1:=(hE1.cell zb 0).trans b0;have f2:=(hE1.cell zb 1).trans b1;have gs1:=(hE1.cell hbs (os+m)).trans gs;have zd1:=cell_lt d1;have zb1:=cell_lt f1;have zs1:=cell_lt gs1;refine layy ?_;refine' tkR 8 (v:=.bool true) rfl (Or.inr ⟨by rfl,165,_, ?hx8_30, ?hy8_30⟩) ?rest8_30
      case hx8_30=>(intro w hSw;go_simp;try with_reducible rfl)
      case hy8_30=>exact fun w hE=>(WI.out _ hE).mono (fun _ _ h=>⟨h.1,h.2,Ext.trans hE h.2⟩)
      refine layy ?_;refine' tkL 9 rfl ?h9_31 ?_
      case h9_31=>(intro w hSw;(have d1':=(hSw.cell zd1 0).trans d1;have b1':=(hSw.cell zb1 0).trans f1;have b2':=(hSw.cell zb1 1).trans f2;have gs':=(hSw.cell zs1 (os+m)).trans gs1);go_simp;try with_reducible rfl)
      refine layy ?_;refine' tkL 10 rfl ?h10_32 ?_
      case h10_32=>(intro w hSw;(have d1':=(hSw.cell zd1 0).trans d1;have b1':=(hSw.cell zb1 0).trans f1;have b2':=(hSw.cell zb1 1).trans f2;have gs':=(hSw.cell zs1 (os+m)).trans gs1);go_simp;try with_reducible rfl)
      refine layy ?_;refine' tkL 11 rfl ?h11_33 ?_
      case h11_33=>(intro w hSw;(have d1':=(hSw.cell zd1 0).trans d1;have b1':=(hSw.cell zb1 0).trans f1;have b2':=(hSw.cell zb1 1).trans f2;have gs':=(hSw.cell zs1 (os+m)).trans gs1);go_simp;try with_reducible rfl)
      refine layy ?_;refine' tkL 12 rfl ?h12_34 ?_
      case h12_34=>(intro w hSw;(have d1':=(hSw.cell zd1 0).trans d1;have b1':=(hSw.cell zb1 0).trans f1;have b2':=(hSw.cell zb1 1).trans f2;have gs':=(hSw.cell zs1 (os+m)).trans gs1);go_simp;try with_reducible rfl)
      refine layy ?_;refine' tkL 13 rfl ?h13_35 ?_
      case h13_35=>(intro w hSw;(have d1':=(hSw.cell zd1 0).trans d1;have b1':=(hSw.cell zb1 0).trans f1;have b2':=(hSw.cell zb1 1).trans f2;have gs':=(hSw.cell zs1 (os+m)).trans gs1);go_simp;try with_reducible rfl)
      refine layy ?_;refine' tkL 14 rfl ?h14_36 ?_
      case h14_36=>(intro w hSw;(have d1':=(hSw.cell zd1 0).trans d1;have b1':=(hSw.cell zb1 0).trans f1;have b2':=(hSw.cell zb1 1).trans f2;have gs':=(hSw.cell zs1 (os+m)).trans gs1);go_simp;try with_reducible rfl)
      refine layy ?_;refine' tkL 15 rfl ?h15_37 ?_
      case h15_37=>(intro w hSw;(have d1':=(hSw.cell zd1 0).trans d1;have b1':=(hSw.cell zb1 0).trans f1;have b2':=(hSw.cell zb1 1).trans f2;have gs':=(hSw.cell zs1 (os+m)).trans gs1);go_simp;try with_reducible rfl)
      refine layy ?_;refine' tkL 16 rfl ?h16_38 ?_
      case h16_38=>(intro w hSw;(have d1':=(hSw.cell zd1 0).trans d1;have b1':=(hSw.cell zb1 0).trans f1;have b2':=(hSw.cell zb1 1).trans f2;have gs':=(hSw.cell zs1 (os+m)).trans gs1);go_simp;try with_reducible rfl)
      refine layy ?_;refine' tkL 17 rfl ?h17_39 ?_
      case h17_39=>(intro w hSw;(have d1':=(hSw.cell zd1 0).trans d1;have b1':=(hSw.cell zb1 0).trans f1;have b2':=(hSw.cell zb1 1).trans f2;have gs':=(hSw.cell zs1 (os+m)).trans gs1);go_simp;try with_reducible rfl)
      refine layy ?_;refine' tkL 18 rfl ?h18_40 ?_
      case h18_40=>(intro w hSw;(have d1':=(hSw.cell zd1 0).trans d1;have b1':=(hSw.cell zb1 0).trans f1;have b2':=(hSw.cell zb1 1).trans f2;have gs':=(hSw.cell zs1 (os+m)).trans gs1);go_simp;try with_reducible rfl)
      refine layy ?_;refine' tkL 19 rfl ?h19_41 ?_
      case h19_41=>(intro w hSw;(have d1':=(hSw.cell zd1 0).trans d1;have b1':=(hSw.cell zb1 0).trans f1;have b2':=(hSw.cell zb1 1).trans f2;have gs':=(hSw.cell zs1 (os+m)).trans gs1);go_simp;try with_reducible rfl)
      refine layy ?_;refine' tkL 20 rfl ?h20_42 ?_
      case h20_42=>(intro w hSw;(have d1':=(hSw.cell zd1 0).trans d1;have b1':=(hSw.cell zb1 0).trans f1;have b2':=(hSw.cell zb1 1).trans f2;have gs':=(hSw.cell zs1 (os+m)).trans gs1);go_simp;try with_reducible rfl)
      refine layy ?_;refine' tkL 21 rfl ?h21_43 ?_
      case h21_43=>(intro w hSw;(have d1':=(hSw.cell zd1 0).trans d1;have b1':=(hSw.cell zb1 0).trans f1;have b2':=(hSw.cell zb1 1).trans f2;have gs':=(hSw.cell zs1 (os+m)).trans gs1);go_simp;try with_reducible rfl)
      refine layy ?_;refine' tkL 22 rfl ?h22_44 ?_
      case h22_44=>(intro w hSw;(have d1':=(hSw.cell zd1 0).trans d1;have b1':=(hSw.cell zb1 0).trans f1;have b2':=(hSw.cell zb1 1).trans f2;have gs':=(hSw.cell zs1 (os+m)).trans gs1);go_simp;try with_reducible rfl)
      refine layy ?_;refine wpAnyR_done (by kernel_rfl) ?_ _;intro x1 _ Ex1;have EX:=Lib.hid (hE1.trans Ex1);have c1':=(EX.out.cell zb 1).trans b1;have SA:=Lib.hid (fun W (hE:Ext x1 W) (j:Nat) (x:Int) (hx:Hp.rd ks j=some x) (W':World) (hE':Ext W W')=>B1.out W' (((E0.out.trans EX.out).trans hE).trans hE') gd gn gb x (D0.out.ext ((EX.out.trans hE).trans hE')) ((((EX.out.trans hE).trans hE').cell zn 0).trans m0) ((((EX.out.trans hE).trans hE').cell zb 0).trans b0) (HKR.out x (List.mem_of_getElem? hx)).1);have SK1:=Lib.hid (fun W (hE:Ext x1 W)=>SK.out.ext (((E0.out.trans EX.out).trans hE)));clear d0 b0 b1 m0 gs d1 f1 f2 gs1 t0;generalize hfn:(fun k=>kidN d k i (Hp.index d.order (m:Int)))=is at *
      go_wp2_with (go_at_call 189;refine (nAll (b:=res) (enters_of Tryz.func214 (by kernel_rfl) rfl) (SK1.out _ (exx)) (fun j x hx _ W' hE'=>(by rw [← hfn];exact SA.out _ (exx) j x hx W' hE')) HE4.out.symm).mono ?_;rintro e w2 ⟨rfl,hb2⟩;obtain ⟨hc2,hf2,hs2⟩:=hb2.cells)
      go_returns;exact ⟨rfl,((E0.out.trans EX.out)).trans hb2⟩
   · have t0:((ks.length:Int) != sz)=true:=by simpa using hne
     have e4:res=false:=by rw [HE3.out,decide_eq_false hne];rfl
     subst e4;clear hne HE3;have PR37:=Lib.hid (fun (ww:World) (hSw:Ext w0 ww)=>And.intro ((hSw.cell zd 0).trans d0) ((hSw.cell zb 0).trans b0));refine wp_region_seq (S:=fun W=>Ext w0 W) (R:=Ext) (by kernel_rfl) Ext.refl ?_ ?_
     · exact exx
     refine' tkL 0 rfl ?h0_45 ?_
     case h0_45=>(intro w q;obtain ⟨d0',b0'⟩:=PR37.out w q;go_simp;try with_reducible rfl)
     refine layy ?_;refine' tkL 1 rfl ?h1_46 ?_
     case h1_46=>(intro w q;obtain ⟨d0',b0'⟩:=PR37.out w q;go_simp;try with_reducible rfl)
     refine layy ?_;refine' tkL 2 rfl ?h2_47 ?_
     case h2_47=>(intro w q;obtain ⟨d0',b0'⟩:=PR37.out w q;go_simp;try with_reducible rfl)
     refine layy ?_;refine' tkL 3 rfl ?h3_48 ?_
     case h3_48=>(intro w q;obtain ⟨d0',b0'⟩:=PR37.out w q;go_simp;try with_reducible rfl)
     refine layy ?_;refine' tkL 4 rfl ?h4_49 ?_
     case h4_49=>(intro w q;obtain ⟨d0',b0'⟩:=PR37.out w q;go_simp;try with_reducible rfl)
     refine layy ?_;refine' tkL 5 rfl ?h5_50 ?_
     case h5_50=>(intro w q;obtain ⟨d0',b0'⟩:=PR37.out w q;go_simp;try with_reducible rfl)
     refine layy ?_;refine' tkL 6 rfl ?h6_51 ?_
     case h6_51=>(intro w q;obtain ⟨d0',b0'⟩:=PR37.out w q;go_simp;try with_reducible rfl)
     refine layy ?_;refine wpAnyR_do1 7 (fun u w''=>∃ g,u = .slice (some ⟨g,0,none⟩) 1 1 ∧ Ext w0 w'' ∧ SliceAt w'' (some ⟨g,0,none⟩) 1 [(m:Int)]) rfl (by kernel_rfl) (by rfl) ?run7 ?vs7 ?next7
     case run7=>
      intro w' hE hS;refine .inr ⟨.slice (some ⟨w'.heap.size,0,none⟩) 1 1,w'.alloc (.cells #[.int .i64 (m:Int)] 3), ?_,⟨_,rfl,((Ext.drew (Ext.refl w0)).trans hE).trans (Ext.alloc (Ext.refl _) _),SliceAt.one w' m HVR.1 HVR.2 _⟩⟩;go_simp
     case vs7=>
      rintro u w'' ⟨g,_,hE,_⟩ W hW;exact hE.trans hW
     case next7=>
      rintro u w1 ⟨g,rfl,hE1,hS1⟩;have WI:=Lib.hid (fun W (hE:Ext w1 W)=>nWithin_any (least:=0) (most:=(n1:Int)-1) (hS1.ext hE) e2);have d1:=(hE1.cell zd 0).trans d0;have f1:=(hE1.cell zb 0).trans b0;have f2:=(hE1.cell zb 1).trans b1;have gs1:=(hE1.cell hbs (os+m)).trans gs;have zd1:=cell_lt d1;have zb1:=cell_lt f1;have zs1:=cell_lt gs1;refine layy ?_;refine' tkR 8 (v:=.bool true) rfl (Or.inr ⟨by rfl,165,_, ?hx8_52, ?hy8_52⟩) ?rest8_52
      case hx8_52=>(intro w hSw;go_simp;try with_reducible rfl)
      case hy8_52=>exact fun w hE=>(WI.out _ hE).mono (fun _ _ h=>⟨h.1,h.2,Ext.trans hE h.2⟩)
      refine layy ?_;refine' tkL 9 rfl ?h9_53 ?_
      case h9_53=>(intro w hSw;(have d1':=(hSw.cell zd1 0).trans d1;have b1':=(hSw.cell zb1 0).trans f1;have b2':=(hSw.cell zb1 1).trans f2;have gs':=(hSw.cell zs1 (os+m)).trans gs1);go_simp;try with_reducible rfl)
      refine layy ?_;refine' tkL 10 rfl ?h10_54 ?_
      case h10_54=>(intro w hSw;(have d1':=(hSw.cell zd1 0).trans d1;have b1':=(hSw.cell zb1 0).trans f1;have b2':=(hSw.cell zb1 1).trans f2;have gs':=(hSw.cell zs1 (os+m)).trans gs1);go_simp;try with_reducible rfl)
      refine layy ?_;refine' tkL 11 rfl ?h11_55 ?_
      case h11_55=>(intro w hSw;(have d1':=(hSw.cell zd1 0).trans d1;have b1':=(hSw.cell zb1 0).trans f1;have b2':=(hSw.cell zb1 1).trans f2;have gs':=(hSw.cell zs1 (os+m)).trans gs1);go_simp;try with_reducible rfl)
      refine layy ?_;refine' tkL 12 rfl ?h12_56 ?_
      case h12_56=>(intro w hSw;(have d1':=(hSw.cell zd1 0).trans d1;have b1':=(hSw.cell zb1 0).trans f1;have b2':=(hSw.cell zb1 1).trans f2;have gs':=(hSw.cell zs1 (os+m)).trans gs1);go_simp;try with_reducible rfl)
      refine layy ?_;refine' tkL 13 rfl ?h13_57 ?_
      case h13_57=>(intro w hSw;(have d1':=(hSw.cell zd1 0).trans d1;have b1':=(hSw.cell zb1 0).trans f1;have b2':=(hSw.cell zb1 1).trans f2;have gs':=(hSw.cell zs1 (os+m)).trans gs1);go_simp;try with_reducible rfl)
      refine layy ?_;refine' tkL 14 rfl ?h14_58 ?_
      case h14_58=>(intro w hSw;(have d1':=(hSw.cell zd1 0).trans d1;have b1':=(hSw.cell zb1 0).trans f1;have b2':=(hSw.cell zb1 1).trans f2;have gs':=(hSw.cell zs1 (os+m)).trans gs1);go_simp;try with_reducible rfl)
      refine layy ?_;refine' tkL 15 rfl ?h15_59 ?_
      case h15_59=>(intro w hSw;(have d1':=(hSw.cell zd1 0).trans d1;have b1':=(hSw.cell zb1 0).trans f1;have b2':=(hSw.cell zb1 1).trans f2;have gs':=(hSw.cell zs1 (os+m)).trans gs1);go_simp;try with_reducible rfl)
      refine layy ?_;refine' tkL 16 rfl ?h16_60 ?_
      case h16_60=>(intro w hSw;(have d1':=(hSw.cell zd1 0).trans d1;have b1':=(hSw.cell zb1 0).trans f1;have b2':=(hSw.cell zb1 1).trans f2;have gs':=(hSw.cell zs1 (os+m)).trans gs1);go_simp;try with_reducible rfl)
      refine layy ?_;refine' tkL 17 rfl ?h17_61 ?_
      case h17_61=>(intro w hSw;(have d1':=(hSw.cell zd1 0).trans d1;have b1':=(hSw.cell zb1 0).trans f1;have b2':=(hSw.cell zb1 1).trans f2;have gs':=(hSw.cell zs1 (os+m)).trans gs1);go_simp;try with_reducible rfl)
      refine layy ?_;refine' tkL 18 rfl ?h18_62 ?_
      case h18_62=>(intro w hSw;(have d1':=(hSw.cell zd1 0).trans d1;have b1':=(hSw.cell zb1 0).trans f1;have b2':=(hSw.cell zb1 1).trans f2;have gs':=(hSw.cell zs1 (os+m)).trans gs1);go_simp;try with_reducible rfl)
      refine layy ?_;refine' tkL 19 rfl ?h19_63 ?_
      case h19_63=>(intro w hSw;(have d1':=(hSw.cell zd1 0).trans d1;have b1':=(hSw.cell zb1 0).trans f1;have b2':=(hSw.cell zb1 1).trans f2;have gs':=(hSw.cell zs1 (os+m)).trans gs1);go_simp;try with_reducible rfl)
      refine layy ?_;refine' tkL 20 rfl ?h20_64 ?_
      case h20_64=>(intro w hSw;(have d1':=(hSw.cell zd1 0).trans d1;have b1':=(hSw.cell zb1 0).trans f1;have b2':=(hSw.cell zb1 1).trans f2;have gs':=(hSw.cell zs1 (os+m)).trans gs1);go_simp;try with_reducible rfl)
      refine layy ?_;refine' tkL 21 rfl ?h21_65 ?_
      case h21_65=>(intro w hSw;(have d1':=(hSw.cell zd1 0).trans d1;have b1':=(hSw.cell zb1 0).trans f1;have b2':=(hSw.cell zb1 1).trans f2;have gs':=(hSw.cell zs1 (os+m)).trans gs1);go_simp;try with_reducible rfl)
      refine layy ?_;refine' tkL 22 rfl ?h22_66 ?_
      case h22_66=>(intro w hSw;(have d1':=(hSw.cell zd1 0).trans d1;have b1':=(hSw.cell zb1 0).trans f1;have b2':=(hSw.cell zb1 1).trans f2;have gs':=(hSw.cell zs1 (os+m)).trans gs1);go_simp;try with_reducible rfl)
      refine layy ?_;refine wpAnyR_done (by kernel_rfl) ?_ _;intro x1 _ Ex1
      go_wp2_with fail
      go_returns;exact ⟨rfl,(E0.out.trans hE1).trans Ex1⟩
open Go.RowKit
theorem all_range {N B:Nat → Bool}:∀ n,(∀ i,i < n → (∀ j,j < i → B j=true) → N i=B i) → (List.range n).all N=(List.range n).all B
 | 0,_=>rfl
 | n+1,h=>by
  have ih:=all_range n (fun i hi=>h i (by omega));rw [List.range_succ,List.all_append,List.all_append,ih]
  cases hb:(List.range n).all B with
  | false=>simp
  | true=>
   rw [List.all_eq_true] at hb;have:=h n (by omega) (fun j hj=>hb j (List.mem_range.2 hj));simp [this]
theorem index_in {z o:List Int} (h:Hp.FrOk z o) {v:Int} (h0:0 ≤ v) (h1:v < z.length):0 ≤ Hp.index o v ∧ Hp.index o v < o.length:=by
 have hm:v ∈ o:=by
  have:=h.perm v.toNat (by omega)
  rwa [Int.toNat_of_nonneg h0] at this
 unfold Hp.index
 cases hf:o.findIdx? (· == v) with
 | none=>
  have:=List.findIdx?_eq_none_iff.1 hf v hm;simp at this
 | some i=>
  have:=(List.findIdx?_eq_some_iff_getElem.1 hf).1;exact ⟨by simp,by simp;omega⟩
theorem var_in {d:Nd.Dia} {i:Nat} (h:Hp.within 0 ((d.sizes.length:Int)-1) (d.nodeAt i).1=true):0 ≤ (d.nodeAt i).1 ∧ (d.nodeAt i).1 < d.sizes.length:=by
 simp only [Hp.within,Bool.and_eq_true,decide_eq_true_eq] at h
 omega
theorem branchB_var {d:Nd.Dia} {i:Nat} (h:branchB d i=true):0 ≤ (d.nodeAt i).1 ∧ (d.nodeAt i).1 < d.sizes.length:=by
 unfold branchB at h
 simp only [Bool.and_eq_true] at h
 exact var_in h.1.1
theorem rankO_in {d:Nd.Dia} (hf:Hp.FrOk d.sizes d.order) {i:Nat} (h:0 ≤ (d.nodeAt i).1 ∧ (d.nodeAt i).1 < d.sizes.length):rankO d (i:Int)=Hp.index d.order (d.nodeAt i).1:=by
 have:=index_in hf h.1 h.2
 unfold rankO
 rw [if_neg (by omega),Int.toNat_natCast,if_neg (by omega)]
theorem kidN_eq {d:Nd.Dia} (hf:Hp.FrOk d.sizes d.order) {i:Nat} (hi:0 ≤ (d.nodeAt i).1 ∧ (d.nodeAt i).1 < d.sizes.length) (hj:∀ j,j < i → branchB d j=true) (k:Int):kidN d k i (Hp.index d.order (d.nodeAt i).1)=kidB d i k:=by
 have hin:=index_in hf hi.1 hi.2
 unfold kidN kidB refB
 rw [rankO_in hf hi]
 by_cases hk:k < 0
 · rw [if_pos hk,if_neg (by omega)];have:rankO d k=d.order.length:=by unfold rankO;rw [if_pos hk]
   rw [this,decide_eq_true (show ¬ (d.order.length:Int) ≤ Hp.index d.order (d.nodeAt i).1 by omega),Bool.and_true]
 · rw [if_neg hk,if_pos (by omega)]
   by_cases hki:k < (i:Int)
   · obtain ⟨m,rfl⟩:∃ m:Nat,k=(m:Int):=⟨k.toNat,by omega⟩
     have hv:=branchB_var (hj m (by omega));rw [rankO_in hf hv,Int.toNat_natCast]
     congr 1
     by_cases hlt:Hp.index d.order (d.nodeAt m).1 > Hp.index d.order (d.nodeAt i).1
     · rw [decide_eq_true hlt,decide_eq_true (by omega)]
     · rw [decide_eq_false hlt,decide_eq_false (by omega)]
   · rw [decide_eq_false hki,Bool.false_and,Bool.false_and]
theorem branchN_eq {d:Nd.Dia} (hf:Hp.FrOk d.sizes d.order) {i:Nat} (hj:∀ j,j < i → branchB d j=true):branchN d i=branchB d i:=by
 unfold branchN branchB
 cases hw:Hp.within 0 ((d.sizes.length:Int)-1) (d.nodeAt i).1 with
 | false=>rfl
 | true=>
  have:=funext fun k=>kidN_eq hf (var_in hw) hj k
  rw [this]
theorem looseN_eq {d:Nd.Dia} (hf:Hp.FrOk d.sizes d.order):(d.ends.all cellOk && (List.range d.nodes.length).all (branchN d) && kidN d d.root d.nodes.length (-1))=looseB d:=by
 unfold looseB
 rw [all_range d.nodes.length (fun i _ hj=>branchN_eq hf hj)]
 cases hb:(List.range d.nodes.length).all (branchB d) with
 | false=>simp
 | true=>
  congr 1
  rw [List.all_eq_true] at hb;unfold kidN refB
  by_cases hk:d.root < 0
  · rw [if_pos hk,if_neg (by omega)]
  · rw [if_neg hk,if_pos (by omega)]
    by_cases hlt:d.root < (d.nodes.length:Int)
    · have hv:=branchB_var (hb d.root.toNat (List.mem_range.2 (by omega)));have:=index_in hf hv.1 hv.2;rw [decide_eq_true hlt,decide_eq_true (show Hp.index d.order (d.nodeAt d.root.toNat).1 > -1 by omega)];rfl
    · rw [decide_eq_false hlt,Bool.false_and]
end Go.Proofs.YtdokmmhjmclmnaaGreat
