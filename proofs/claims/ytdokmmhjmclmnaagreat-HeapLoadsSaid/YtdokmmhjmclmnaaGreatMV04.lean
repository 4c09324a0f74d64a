/-
  Part 4 of a proof: HFn7 HFn8 HFn9 HFn10 HFn11 HFn12 HFn13 HFn14 HFn15 HFn16 RegPlan.
-/
import Derived.Laws.EntriesVeiled
import Derived.Maps.RangeWalk
import Derived.Test.YtdokmmhjmclmnaaGreatMV03
set_option linter.unusedSimpArgs false
set_option linter.unusedVariables false
set_option linter.unusedSectionVars false
set_option linter.unnecessarySimpa false
namespace Go.Proofs.YtdokmmhjmclmnaaGreat
variable {W' w w' w0 wb:World} {B a b base c cap ce cn f g gb i j k lb m n oc s sc:Nat} {choice t x:Int} {G W fs l o xs z:List Int} {S S':Hp.Hs} {A N T:List Nat} {M:List (Nat × Int)} {op p pe pn q sp:Option Addr} {d:Hd}
open Go.RowKit
def err8 (a:Nat):Int:=if a=0 then 8 else 0
theorem full_any (a:Nat) (w:World):Calls Tryz.prog 106 #[.int .i64 a] w fun e w'=>e = .returned (.tuple #[.int .i64 a,.int .i64 (err8 a)])/\Ext w w':=by
 by_cases h:a=0
 . subst h;go_enter Tryz.func106,Tryz.ntmps106;go_wp2
   go_ret2
   exact ⟨rfl,exx⟩
 have t0:((a:Int) == 0)=false:=by simpa using h
 have e:err8 a=0:=if_neg h
 rw [e]
 clear h e
 go_enter Tryz.func106,Tryz.ntmps106
 go_wp2
 go_ret2
 exact ⟨rfl,exx⟩
theorem isMade_nil (w:World):Calls Tryz.prog 72 #[.pointer none] w fun e w'=>e = .returned (.bool false)/\Ext w w':=by
 go_enter Tryz.func72,Tryz.ntmps72
 go_wp2
 go_returns
 exact ⟨rfl,exx⟩
theorem isMade_yes (h:HAt w d S):Calls Tryz.prog 72 #[.pointer (some ⟨d.hb,0,none⟩)] w fun e w'=>e = .returned (.bool true)/\Ext w w':=by
 have c2:=h.c2
 clear h
 go_enter Tryz.func72,Tryz.ntmps72
 go_wp2
 go_returns
 exact ⟨rfl,exx⟩
theorem has_lit (S:Hp.Hs) (x:Int):hasLit S.taken (.int .i64 x)=S.has x:=rfl
theorem run_look (h:HAt w d S) {b:Bool} (hb:S.has x=b) (h1 : -9223372036854775808<=x) (h2:x<=9223372036854775807) :
    (Instr.lookup 102 (.map (some d.gm)) (.int .i64 x) false).run Tryz.prog w = .ok (.bool b) w:=by
  rw [<- hb,<- has_lit];exact h.map.look Tryz.underlying3 Tryz.underlying4 Tryz.underlying102 (Tryz.zeroValue4 w) h1 h2
theorem isTaken_any (h:HAt w d S) {b:Bool} (hb:S.has x=b) (h1 : -9223372036854775808<=x) (h2:x<=9223372036854775807) :
    Calls Tryz.prog 128 #[.pointer (some ⟨d.hb,0,none⟩),.int .i64 x] w fun e w'=>e = .returned (.bool b)/\Ext w w':=by
  have hl:=run_look h hb h1 h2;have c3:=h.c3;clear h hb;go_enter Tryz.func128,Tryz.ntmps128;go_wp2;go_returns;exact ⟨rfl,exx⟩
theorem open_yes (h:HAt w d S) (hb:S.has x=true) (h1 : -9223372036854775808<=x) (h2:x<=9223372036854775807) :
    Calls Tryz.prog 77 #[.pointer (some ⟨d.hb,0,none⟩),.int .i64 x] w fun e w'=>e = .returned (.int .i64 0)/\Ext w w':=by
  have H:=hZ h;have HB:=hZ hb;clear h hb;go_enter Tryz.func77,Tryz.ntmps77
  go_wp2_with (go_at_call 72;refine (isMade_yes H.out).mono ?_;rintro e w1 ⟨rfl,hb1⟩;obtain ⟨hc1,hf1,hs1⟩:=hb1.cells;have c3:=(H.out.ext hb1).c3;have hl:=run_look (H.out.ext hb1) HB.out h1 h2)
  go_returns;exact ⟨rfl,exx⟩
theorem open_no (h:HAt w d S) (hb:S.has x=false) (h1 : -9223372036854775808<=x) (h2:x<=9223372036854775807) :
    Calls Tryz.prog 77 #[.pointer (some ⟨d.hb,0,none⟩),.int .i64 x] w fun e w'=>e = .returned (.int .i64 7)/\Ext w w':=by
  have H:=hZ h;have HB:=hZ hb;clear h hb;go_enter Tryz.func77,Tryz.ntmps77
  go_wp2_with (go_at_call 72;refine (isMade_yes H.out).mono ?_;rintro e w1 ⟨rfl,hb1⟩;obtain ⟨hc1,hf1,hs1⟩:=hb1.cells;have c3:=(H.out.ext hb1).c3;have hl:=run_look (H.out.ext hb1) HB.out h1 h2)
  go_returns;exact ⟨rfl,exx⟩
theorem Hold_any {e0:Int} (h:HAt w d S) (hr:S.hold x=some (e0,S')) (h1 : -9223372036854775808<=x) (h2:x<=9223372036854775807) :
    Calls Tryz.prog 53 #[.pointer (some ⟨d.hb,0,none⟩),.int .i64 x] w (Turned d w (.int .i64 e0) S'):=by
  have H:=hZ (Now.refl h);clear h;unfold Hp.Hs.hold at hr
  cases hb:S.has x with
  | false=>
   rw [if_pos hb] at hr;simp only [Option.some.injEq,Prod.mk.injEq] at hr;obtain ⟨rfl,rfl⟩:=hr;have HB:=hZ hb;clear hb;go_enter Tryz.func53,Tryz.ntmps53
   go_wp2_with (go_at_call 77;refine (open_no H.out.toHAt HB.out h1 h2).mono ?_;rintro e w1 ⟨rfl,hb1⟩;obtain ⟨hc1,hf1,hs1⟩:=hb1.cells)
   go_returns;exact (H.out.ext hb1).done
  | true=>
   have hx0:0<=x:=by
    unfold Hp.Hs.has at hb;simp at hb;exact hb.1
   obtain ⟨a,rfl⟩:=Int.eq_ofNat_of_zero_le hx0;have HB:=hZ hb;rw [if_neg (by rw [hb];simp)] at hr;simp only [Option.bind_eq_bind,Option.bind_eq_some_iff,Option.pure_def,Option.some.injEq,Prod.mk.injEq,Int.toNat_natCast] at hr;obtain ⟨v,hv,W,hW,rfl,rfl⟩:=hr;obtain ⟨hv,v1,v2⟩:=rc_some hv;have hl:=rd_lt hv;have HV:=hZ hv;have HW:=hZ hW;have sm:=H.out.small;clear hb hv hW hx0 h1 h2;go_enter Tryz.func53,Tryz.ntmps53
   go_wp2_with (go_at_call 77;refine (open_yes H.out.toHAt HB.out (by omega) (by omega)).mono ?_;rintro e w1 ⟨rfl,hb1⟩;obtain ⟨hc1,hf1,hs1⟩:=hb1.cells;have N1:=hZ (H.out.ext hb1);have c2:=N1.out.c2;have g:=N1.out.words.get HV.out;have f:=N1.out.words.froz (a+2))
   go_returns;exact (N1.out.set HW.out (by omega) (by omega)).done
def Says (w:World) (g:Nat) (first cap:Array Value) (l:List Int) (q:Int->Bool):Prop:=
 ∀ (j:Nat) (x:Int),Hp.rd l j=some x->(∀ i y,i < j->Hp.rd l i=some y->q y=false) -> ∀ W,Ext w W->Calls Tryz.prog g (first ++ #[.int .i64 x] ++ cap) W fun e w'=>e = .returned (.bool (q x))/\Ext W w'
def firstAt (q:Int->Bool) (l:List Int):Int:=match l.findIdx? q with | some i=>i | none=>-1
theorem firstAt_hit {q:Int->Bool} (hk:Hp.rd l k=some x) (hq:q x=true) (h:∀ i y,i < k->Hp.rd l i=some y->q y=false):firstAt q l=k:=by
 have e:l.findIdx? q=some k:=by
  rw [List.findIdx?_eq_some_iff_getElem];unfold Hp.rd at hk h;obtain ⟨hl,he⟩:=List.getElem?_eq_some_iff.1 hk;exact ⟨hl,by rw [he];exact hq,fun j hj=>by rw [h j _ hj (List.getElem?_eq_getElem (by omega))];simp⟩
 simp [firstAt,e]
theorem firstAt_miss {q:Int->Bool} (h:∀ i y,i < l.length->Hp.rd l i=some y->q y=false):firstAt q l = -1:=by
 have e:l.findIdx? q=none:=by
  rw [List.findIdx?_eq_none_iff];intro y hy;obtain ⟨j,hj,rfl⟩:=List.getElem_of_mem hy;exact h j _ hj (List.getElem?_eq_getElem hj)
 simp [firstAt,e]
theorem firstAt_any (q:Int->Bool) (l:List Int):decide (0<=firstAt q l)=l.any q:=by
 unfold firstAt
 cases h:l.findIdx? q with
 | none=>
  have:=List.findIdx?_eq_none_iff.1 h;simp only [show ¬ (0:Int) <= -1 by omega,decide_false]
  symm
  rw [List.any_eq_false];intro x hx;rw [this x hx];simp
 | some i=>
  obtain ⟨hl,hq,_⟩:=List.findIdx?_eq_some_iff_getElem.1 h;simp only [Int.natCast_nonneg,decide_true]
  symm
  rw [List.any_eq_true];exact ⟨l[i],List.getElem_mem _,hq⟩
set_option maxHeartbeats 2000000 in
theorem sIndexFunc_any {cap:Array Value} {q:Int->Bool} (eg:∀ args w,(callFunc g args).run Tryz.prog w = .ok (.enter g args) w) (h:SliceAt w p c l) (hs:Says w g #[] cap l q) :
    Calls Tryz.prog 186 #[.slice p l.length c,.func (.func g) #[] cap] w fun e w'=>e = .returned (.int .i64 (firstAt q l))/\Ext w w':=by
  have hle:=h.le;have hcap:=h.cap;have H:=hZ h;have HS:=hZ hs;clear h hs;generalize hL:l.length=n at hle ⊢;have HL:=hZ hL;clear hL;go_enter Tryz.func186,Tryz.ntmps186;go_wp2
  go_loopg [8] n (fun gg s8 wr=>∃ kk:Nat,kk<=n/\n-kk<=gg/\s8 = .int .i64 kk/\Aside (Ext w wr)/\Aside (∀ i y,i < kk->Hp.rd l i=some y->q y=false))
  case atStart=>exact ⟨0,Nat.zero_le _,by omega,rfl,Ext.refl w,fun i y hi=>absurd hi (Nat.not_lt_zero _)⟩
  case round=>
   obtain ⟨kk,hkk,hg,rfl,E,A⟩:=hrel
   by_cases hlt:kk < n
   . obtain ⟨x,hx⟩:=rd_get (l:=l) (j:=kk) (by rw [HL.out];exact hlt);obtain ⟨b,o,rfl,hb,hc⟩:=(H.out.ext E.out).cells (by rw [HL.out];omega);have g1:=hc kk x hx;have hcall:=hZ (HS.out kk x hx A.out wr E.out);have HX:=hZ hx;clear hc hx
     cases hq:q x with
     | true=>
      have HQ:=hZ hq;clear hq
      go_wp2_with (go_at_fn g;refine (Calls.mono hcall.out ?_);rintro e w' ⟨rfl,hb'⟩;rw [HQ.out])
      go_returns;exact ⟨by rw [firstAt_hit HX.out HQ.out A.out];rfl,E.out.trans hb'⟩
     | false=>
      have HQ:=hZ hq;clear hq
      go_wp2_with (go_at_fn g;refine (Calls.mono hcall.out ?_);rintro e w' ⟨rfl,hb'⟩;rw [HQ.out])
      go_roundg (n-(kk+1))
      case measure=>omega
      case rel=>
       refine ⟨kk+1,by omega,by omega,by go_num,(show Aside _ from E.out.trans hb'),(show Aside _ from fun i y hi hy=>?_)⟩
       by_cases e:i=kk
       . subst e;have:=HX.out;rw [hy] at this
         cases this
         exact HQ.out
       exact A.out i y (by omega) hy
   have:kk=n:=by omega
   subst this;go_wp2;go_returns;exact ⟨by rw [firstAt_miss (by rw [HL.out];exact A.out)];rfl,E.out⟩
theorem sContainsFunc_any {cap:Array Value} {q:Int->Bool} {b:Bool} (eg:∀ args w,(callFunc g args).run Tryz.prog w = .ok (.enter g args) w) (h:SliceAt w p c l) (hs:Says w g #[] cap l q) (hb:l.any q=b) :
    Calls Tryz.prog 167 #[.slice p l.length c,.func (.func g) #[] cap] w fun e w'=>e = .returned (.bool b)/\Ext w w':=by
  rw [<- firstAt_any] at hb;have H:=hZ h;have HS:=hZ hs;have EG:=hZ eg;clear h hs eg;subst hb;go_enter Tryz.func167,Tryz.ntmps167
  go_wp2_with (go_at_call 186;refine (sIndexFunc_any EG.out H.out HS.out).mono ?_;rintro e w1 ⟨rfl,hb1⟩;obtain ⟨hc1,hf1,hs1⟩:=hb1.cells)
  go_returns;exact ⟨rfl,exx⟩
theorem every1_any {bx:Nat} {first cap:Array Value} {b:Bool} (eg:∀ args w,(callFunc g args).run Tryz.prog w = .ok (.enter g args) w) (hc:w.cell? ⟨bx,0,none⟩=some (.func (.func g) first cap))
    (hs:Calls Tryz.prog g (first ++ #[.int .i64 x] ++ cap) w fun e w'=>e = .returned (.bool b)/\Ext w w') :
    Calls Tryz.prog 168 #[.int .i64 x,.pointer (some ⟨bx,0,none⟩)] w fun e w'=>e = .returned (.bool (!b))/\Ext w w':=by
  have HS:=hZ hs;clear hs;go_enter Tryz.func168,Tryz.ntmps168
  go_wp2_with (go_at_fn g;refine (Calls.mono HS.out ?_);rintro e w' ⟨rfl,hb'⟩)
  go_returns;exact ⟨rfl,hb'⟩
def SaysAll (w:World) (g:Nat) (first cap:Array Value) (l:List Int) (is:Int->Bool):Prop:=
 ∀ (j:Nat) (x:Int),Hp.rd l j=some x->(∀ i y,i < j->Hp.rd l i=some y->is y=true) -> ∀ W,Ext w W->Calls Tryz.prog g (first ++ #[.int .i64 x] ++ cap) W fun e w'=>e = .returned (.bool (is x))/\Ext W w'
theorem SliceAt.lt {w':World} (h:SliceAt w p c l) (o:Obj):SliceAt (w.alloc o) p c l:=h.ext (Ext.alloc (Ext.refl w) o)
theorem all_any (l:List Int) (is:Int->Bool):l.all is = !(l.any fun x=>!is x):=by
 induction l with
 | nil=>rfl
 | cons a r ih=>simp [List.all_cons,List.any_cons,ih]
theorem every_any {first cap:Array Value} {is:Int->Bool} {b:Bool} (eg:∀ args w,(callFunc g args).run Tryz.prog w = .ok (.enter g args) w) (h:SliceAt w p c l) (hs:SaysAll w g first cap l is) (hb:l.all is=b) :
    Calls Tryz.prog 124 #[.slice p l.length c,.func (.func g) first cap] w fun e w'=>e = .returned (.bool b)/\Ext w w':=by
  rw [all_any] at hb;have key:∀ t,Says (w.alloc (.cells #[.func (.func g) first cap] t)) 168 #[] #[.pointer (some ⟨w.heap.size,0,none⟩)] l (fun x=>!is x):=by
   intro t j x hx hall W hW;have hlt:w.heap.size < (w.alloc (.cells #[.func (.func g) first cap] t)).heap.size:=by simp
   have hc:W.cell? ⟨w.heap.size,0,none⟩=some (.func (.func g) first cap):=by
    rw [hW.cell hlt 0];have:=World.cell?_alloc_mark w #[.func (.func g) first cap] t (0,0) 0;rw [this];rfl
   have:=every1_any eg hc (hs j x hx (fun i y hi hy=>by simpa using hall i y hi hy) W ((Ext.alloc (Ext.refl w) _).trans hW))
   simpa using this
  have H:=hZ h;have K:=hZ key;clear h hs eg key;subst hb;go_enter Tryz.func124,Tryz.ntmps124
  go_wp2_with (go_at_call 167;refine (sContainsFunc_any (b:=l.any fun x=>!is x) (enters_of Tryz.func168 (by kernel_rfl) rfl) (H.out.ext (Ext.alloc (Ext.refl w) _)) (K.out _) rfl).mono ?_;rintro e w1 ⟨rfl,hb1⟩;obtain ⟨hc1,hf1,hs1⟩:=hb1.cells)
  go_returns;exact ⟨rfl,exx⟩
theorem alike1_any {bx:Nat} {y:Int} (hc:w.cell? ⟨bx,0,none⟩=some (.slice p l.length c)) (h:SliceAt w p c l) (hy:Hp.rd l 0=some y) :
    Calls Tryz.prog 159 #[.int .i64 x,.pointer (some ⟨bx,0,none⟩)] w fun e w'=>e = .returned (.bool (x == y))/\Ext w w':=by
  obtain ⟨b,o,rfl,hb,hx⟩:=h.cells (by have:=rd_lt hy;omega);have g:=hx 0 y hy;have h0:=rd_lt hy;have hcap:=h.cap;have hle:=h.le;clear h hx hy;generalize l.length=n at *;simp only [Nat.add_zero] at g;go_enter Tryz.func159,Tryz.ntmps159;go_wp2;go_returns;exact ⟨rfl,exx⟩
theorem alike_eq {y:Int} (hy:Hp.rd l 0=some y):l.all (fun x=>x == y)=Hp.Hs.alike l:=by
 cases l with
 | nil=>cases hy
 | cons a r=>
  have:a=y:=by simpa [Hp.rd] using hy
  subst this;rfl
theorem alike_any {b:Bool} (h:SliceAt w p c l) (h0:0 < l.length) (hb:Hp.Hs.alike l=b) :
    Calls Tryz.prog 109 #[.slice p l.length c] w fun e w'=>e = .returned (.bool b)/\Ext w w':=by
  obtain ⟨y,hy⟩:=rd_get h0;rw [<- alike_eq hy] at hb;have key:∀ t,SaysAll (w.alloc (.cells #[.slice p l.length c] t)) 159 #[] #[.pointer (some ⟨w.heap.size,0,none⟩)] l (fun x=>x == y):=by
   intro t j x hx _ W hW;have hlt:w.heap.size < (w.alloc (.cells #[.slice p l.length c] t)).heap.size:=by simp
   have hc:W.cell? ⟨w.heap.size,0,none⟩=some (.slice p l.length c):=by
    rw [hW.cell hlt 0];have:=World.cell?_alloc_mark w #[.slice p l.length c] t (0,0) 0;rw [this];rfl
   have:=alike1_any (x:=x) hc (h.ext ((Ext.alloc (Ext.refl w) _).trans hW)) hy
   simpa using this
  have H:=hZ h;have K:=hZ key;have HB:=hZ hb;clear h key hy hb;go_enter Tryz.func109,Tryz.ntmps109
  go_wp2_with (go_at_call 124;refine (every_any (enters_of Tryz.func159 (by kernel_rfl) rfl) (H.out.ext (Ext.alloc (Ext.refl w) _)) (K.out _) HB.out).mono ?_;rintro e w1 ⟨rfl,hb1⟩;obtain ⟨hc1,hf1,hs1⟩:=hb1.cells)
  go_returns;exact ⟨rfl,exx⟩
def isL (S:Hp.Hs) (choice x:Int):Bool:=match (do Hp.ck (<- S.tag (<- Hp.adr x)):Option Int) with
 | some t=>decide (Hp.rank S.order t > Hp.rank S.order (choice+1))
 | none=>false
theorem laters_spec {S:Hp.Hs} {choice:Int}:∀ {l:List Int} {b:Bool},S.laters choice l=some b->l.all (isL S choice)=b /\
    ∀ (j:Nat) (x:Int),Hp.rd l j=some x->(∀ i y,i < j->Hp.rd l i=some y->isL S choice y=true) -> ∃ (a:Nat) (t:Int),x=a/\S.tag a=some t /\ -4611686018427387904 < t/\t < 4611686018427387904
  | [],b,h=>by
   simp only [Hp.Hs.laters,Option.some.injEq] at h;subst h;exact ⟨rfl,fun j x hx=>by cases hx⟩
  | k :: r,b,h=>by
   simp only [Hp.Hs.laters,Option.bind_eq_bind,Option.bind_eq_some_iff] at h;obtain ⟨a,ha,t,ht,t',ht',h⟩:=h;have e:isL S choice k=decide (Hp.rank S.order t' > Hp.rank S.order (choice+1)):=by simp [isL,ha,ht,ht']
   obtain ⟨rfl,h1,h2⟩:=ck_some ht';have hka:=adr_some ha
   split at h
   . rename_i hr;obtain ⟨i1,i2⟩:=laters_spec h;have ek:isL S choice k=true:=by rw [e];exact decide_eq_true hr
     refine ⟨by rw [List.all_cons,ek,i1];rfl,fun j x hx hall=>?_⟩
     cases j with
     | zero=>
      have:k=x:=by simpa [Hp.rd] using hx
      subst this;exact ⟨a,t',hka,ht,h1,h2⟩
     | succ j=>exact i2 j x (by simpa [Hp.rd] using hx) (fun i y hi hy=>hall (i+1) y (by omega) (by simpa [Hp.rd] using hy))
   rename_i hr;have ek:isL S choice k=false:=by rw [e];exact decide_eq_false hr
   simp only [Option.some.injEq] at h;subst h;refine ⟨by rw [List.all_cons,ek];rfl,fun j x hx hall=>?_⟩
   cases j with
   | zero=>
    have:k=x:=by simpa [Hp.rd] using hx
    subst this;exact ⟨a,t',hka,ht,h1,h2⟩
   | succ j=>
    have:=hall 0 k (by omega) rfl;rw [ek] at this
    cases this
theorem isL_eq (ht:S.tag a=some t) (h1 : -4611686018427387904 < t) (h2:t < 4611686018427387904):isL S choice a=decide (Hp.rank S.order t > Hp.rank S.order (choice+1)):=by
 have e:Hp.adr (a:Int)=some a:=by simp [Hp.adr]
 have e2:Hp.ck t=some t:=by simp [Hp.ck,h1,h2]
 simp [isL,e,ht,e2]
set_option maxHeartbeats 2000000 in
theorem checkNode1_any {bx by':Nat} (h:HAt w d S) (hx:w.cell? ⟨bx,0,none⟩=some (.pointer (some ⟨d.hb,0,none⟩))) (hy:w.cell? ⟨by',0,none⟩=some (.int .i64 choice)) (hc1 : -1<=choice) (hc2:choice<=1000000)
    (ht:S.tag a=some t) (h1 : -4611686018427387904 < t) (h2:t < 4611686018427387904) :
    Calls Tryz.prog 158 #[.int .i64 a,.pointer (some ⟨bx,0,none⟩),.pointer (some ⟨by',0,none⟩)] w fun e w'=>e = .returned (.bool (isL S choice a))/\Ext w w':=by
  rw [isL_eq ht h1 h2];have zx:=cell_lt hx;have zy:=cell_lt hy;have z1:=h.lt;have c0:=h.c0;have c1:=h.c1;have H:=hZ h;have HT:=hZ ht;clear h ht;have e1:IntKind.i64.wrap (choice+1)=choice+1:=IntWalk.i64_in _ (by omega);generalize hr1:Hp.rank S.order t=r1;generalize hr2:Hp.rank S.order (choice+1)=r2;have HR1:=hZ hr1;have HR2:=hZ hr2;clear hr1 hr2;go_enter Tryz.func158,Tryz.ntmps158
  go_wp2_with fail
  have pr6a:=fun u_ (h_:Ext w u_)=>(h_.cell zx 0).trans hx
  have pr6b:=fun u_ (h_:Ext w u_)=>(h_.cell zy 0).trans hy
  have pr6c:=fun u_ (h_:Ext w u_)=>(h_.cell z1 0).trans c0
  have pr6d:=fun u_ (h_:Ext w u_)=>(h_.cell z1 1).trans c1
  refine wp_region_seq (S:=fun W=>Ext w W) (R:=Ext) (by kernel_rfl) Ext.refl ?_ ?_
  . exact exx
  refine' tkL 0 ?_;refine' tkL 1 ?_;refine' tkL 2 ?_;refine' tkL 3 ?_;refine' tkL 4 ?_;refine' tkL 5 ?_;refine' tkC 6 (.int .i64 t) 76 (fun w hE=>tag_any (H.out.ext hE).c2 rfl H.out.le H.out.cap (H.out.ext hE).words HT.out) ?_;refine' tkC 7 (.int .i64 r1) 126 (fun w hE=>(HR1.out ▸ rank_any (H.out.ext hE).order (by omega) (by omega))) ?_;refine' tkL 8 ?_;refine' tkL 9 ?_;refine' tkL 10 ?_;refine' tkL 11 ?_;refine' tkL 12 ?_;refine' tkL 13 ?_;refine' tkC 14 (.int .i64 r2) 126 (fun w hE=>(HR2.out ▸ rank_any (H.out.ext hE).order (by omega) (by omega))) ?_;refine' tkL 15 ?_;refine' tkL 16 ?_;refine wpAnyR_done (by kernel_rfl) ?_ _;intro x1 _ Ex1;clear pr6a pr6b pr6c pr6d;go_wp2;go_returns;exact ⟨rfl,exx⟩
theorem isL_says {W:World} {b:Bool} {bx by':Nat} (h:HAt w d S) (hx:w.cell? ⟨bx,0,none⟩=some (.pointer (some ⟨d.hb,0,none⟩))) (hy:w.cell? ⟨by',0,none⟩=some (.int .i64 choice)) (hc1 : -1<=choice) (hc2:choice<=1000000)
    (hl:S.laters choice l=some b) (hW:Ext w W):SaysAll W 158 #[] #[.pointer (some ⟨bx,0,none⟩),.pointer (some ⟨by',0,none⟩)] l (isL S choice):=by
  intro j x hjx hall W' hW';obtain ⟨a,t,rfl,ht,h1,h2⟩:=(laters_spec hl).2 j x hjx hall;have E:=hW.trans hW';have:=checkNode1_any (h.ext E) ((E.cell (cell_lt hx) 0).trans hx) ((E.cell (cell_lt hy) 0).trans hy) hc1 hc2 ht h1 h2
  simpa using this
theorem has_says (h:HAt w d S) (hwf:∀ x ∈ l,-9223372036854775808<=x/\x<=9223372036854775807):SaysAll w 128 #[.pointer (some ⟨d.hb,0,none⟩)] #[] l S.has:=by
 intro j x hjx _ W hW
 have hb:=hwf x (List.mem_of_getElem? hjx)
 have:=isTaken_any (h.ext hW) (x:=x) rfl hb.1 hb.2
 simpa using this
theorem sizes_le (h:HAt w d S) {n:Int} (hn:Hp.rd S.sizes i=some n):1<=n/\n<=12:=h.pos n (List.mem_of_getElem? hn)
set_option maxHeartbeats 4000000 in
theorem checkNode_range (p:Value) (h:HAt w d S) (hc1 : -9223372036854775808<=choice) (hc2:choice<=9223372036854775807) (hr:Hp.within 0 (S.sizes.length-1) choice=false) :
    Calls Tryz.prog 108 #[.pointer (some ⟨d.hb,0,none⟩),.int .i64 choice,p] w fun e w'=>e = .returned (.int .i64 3)/\Ext w w':=by
  have hle:=h.sizes.le;have hcap:=h.sizes.cap;have H:=hZ h;have HR:=hZ hr;clear h hr;have e1:IntKind.i64.wrap ((S.sizes.length:Int)-1)=(S.sizes.length:Int)-1:=IntWalk.i64_in _ (by omega);go_enter Tryz.func108,Tryz.ntmps108;go_upto_region 4 with (go_at_call 72;refine (isMade_yes (H.out.ext (exx))).mono ?_;rintro e w1 ⟨rfl,hb1⟩;obtain ⟨hc1,hf1,hs1⟩:=hb1.cells;have hz1_0:w.heap.size < w1.heap.size:=(by have h:=hb1.le;(try simp at h);omega);have hc1_0:=hb1.cell (b:=w.heap.size) (by first | omega | (simp;done) | (simp;omega));have hf1_0:=hb1.frozen (b:=w.heap.size) (by first | omega | (simp;done) | (simp;omega));have hz1_1:w.heap.size+1 < w1.heap.size:=(by have h:=hb1.le;(try simp at h);omega);have hc1_1:=hb1.cell (b:=w.heap.size+1) (by first | omega | (simp;done) | (simp;omega));have hf1_1:=hb1.frozen (b:=w.heap.size+1) (by first | omega | (simp;done) | (simp;omega)))
  have N1:=hZ (H.out.ext (exx:Ext w w1));have c0:=N1.out.c0;have z0:=N1.out.lt;have ca:w1.cell? ⟨w.heap.size,0,none⟩=some (.pointer (some ⟨d.hb,0,none⟩)):=by rw [hc1_0];go_simp
  have cb:w1.cell? ⟨w.heap.size+1,0,none⟩=some (.int .i64 choice):=by rw [hc1_1];go_simp
  have pr7a:=fun u_ (h_:Ext w1 u_)=>(h_.cell z0 0).trans c0
  have pr7b:=fun u_ (h_:Ext w1 u_)=>(h_.cell hz1_0 0).trans ca
  have pr7c:=fun u_ (h_:Ext w1 u_)=>(h_.cell hz1_1 0).trans cb
  refine wp_region_seq (S:=fun W=>Ext w1 W) (R:=Ext) (by kernel_rfl) Ext.refl ?_ ?_
  . exact exx
  refine' tkL 0 ?_;refine' tkL 1 ?_;refine' tkL 2 ?_;refine' tkL 3 ?_;refine' tkL 4 ?_;refine' tkL 5 ?_;refine' tkL 6 ?_;refine' tkL 7 ?_;refine' tkC 8 (.bool false) 105 (fun w hE=>(HR.out ▸ within_any 0 ((S.sizes.length:Int)-1) choice _)) ?_;refine' tkL 9 ?_;refine' tkL 10 ?_;refine wpAnyR_done (by kernel_rfl) ?_ _;intro x1 _ Ex1;clear pr7a pr7b pr7c
  go_wp2_with fail
  go_returns;exact ⟨rfl,exx⟩
theorem within_nat {c:Int} (h:Hp.within 0 ((n:Int)-1) c=true):∃ i:Nat,c=i/\i < n:=by
 unfold Hp.within at h
 simp only [Bool.and_eq_true,decide_eq_true_eq] at h
 exact ⟨c.toNat,by omega,by omega⟩
set_option maxHeartbeats 8000000 in
theorem checkNode_any {e0:Int} (h:HAt w d S) (hs:SliceAt w p c l) (hc1 : -9223372036854775808<=choice) (hc2:choice<=9223372036854775807) (hr:S.checkNode choice l=some e0) :
    Calls Tryz.prog 108 #[.pointer (some ⟨d.hb,0,none⟩),.int .i64 choice,.slice p l.length c] w fun e w'=>e = .returned (.int .i64 e0)/\Ext w w':=by
  unfold Hp.Hs.checkNode at hr
  cases hw:Hp.within 0 ((S.sizes.length:Int)-1) choice with
  | false=>
   rw [if_pos hw] at hr
   cases hr
   exact checkNode_range _ h hc1 hc2 hw
  | true=>
   rw [if_neg (by rw [hw];simp)] at hr;obtain ⟨i,rfl,hi⟩:=within_nat hw;simp only [Option.bind_eq_bind,Option.bind_eq_some_iff,Int.toNat_natCast] at hr;obtain ⟨n,hn,hr⟩:=hr;have hle:=h.sizes.le;have hcap:=h.sizes.cap;have hle':=hs.le;have sm:=h.few;have hcap':=hs.cap;have hsz:=sizes_le h hn;obtain ⟨b,o,hsp,hbl,hcell⟩:=h.sizes.cells (by omega);have gi:=hcell i n hn;have HSP:=hZ hsp;have H:=hZ h;have HS:=hZ hs;have HW:=hZ hw;have HR:=hZ hr;clear h hs hw hr hn hcell hsp hc1 hc2;have e1:IntKind.i64.wrap ((S.sizes.length:Int)-1)=(S.sizes.length:Int)-1:=IntWalk.i64_in _ (by omega);have i1:(0:Int)<=(i:Int):=by omega
   have i2:(i:Int) < (S.sizes.length:Int):=by omega
   go_enter Tryz.func108,Tryz.ntmps108;go_upto_region 4 with (go_at_call 72;refine (isMade_yes (H.out.ext (exx))).mono ?_;rintro e w1 ⟨rfl,hb1⟩;obtain ⟨hc1,hf1,hs1⟩:=hb1.cells;have hz1_0:w.heap.size < w1.heap.size:=(by have h:=hb1.le;(try simp at h);omega);have hc1_0:=hb1.cell (b:=w.heap.size) (by first | omega | (simp;done) | (simp;omega));have hf1_0:=hb1.frozen (b:=w.heap.size) (by first | omega | (simp;done) | (simp;omega));have hz1_1:w.heap.size+1 < w1.heap.size:=(by have h:=hb1.le;(try simp at h);omega);have hc1_1:=hb1.cell (b:=w.heap.size+1) (by first | omega | (simp;done) | (simp;omega));have hf1_1:=hb1.frozen (b:=w.heap.size+1) (by first | omega | (simp;done) | (simp;omega)))
   have E1:Ext w w1:=exx;have N1:=hZ (H.out.ext E1);have c0:=N1.out.c0;rw [HSP.out] at c0;have z0:=N1.out.lt;have ca:w1.cell? ⟨w.heap.size,0,none⟩=some (.pointer (some ⟨d.hb,0,none⟩)):=by rw [hc1_0];go_simp
   have cb:w1.cell? ⟨w.heap.size+1,0,none⟩=some (.int .i64 i):=by rw [hc1_1];go_simp
   have zb:b < w1.heap.size:=Nat.lt_of_lt_of_le hbl E1.le;have gi':=(E1.cell hbl (o+i)).trans gi;have pr8a:=fun u_ (h_:Ext w1 u_)=>(h_.cell z0 0).trans c0
   have pr8b:=fun u_ (h_:Ext w1 u_)=>(h_.cell hz1_0 0).trans ca
   have pr8c:=fun u_ (h_:Ext w1 u_)=>(h_.cell hz1_1 0).trans cb
   refine wp_region_seq (S:=fun W=>Ext w1 W) (R:=Ext) (by kernel_rfl) Ext.refl ?_ ?_
   . exact exx
   refine' tkL 0 ?_;refine' tkL 1 ?_;refine' tkL 2 ?_;refine' tkL 3 ?_;refine' tkL 4 ?_;refine' tkL 5 ?_;refine' tkL 6 ?_;refine' tkL 7 ?_;refine' tkC 8 (.bool true) 105 (fun w hE=>(HW.out ▸ within_any 0 ((S.sizes.length:Int)-1) i _)) ?_;refine' tkL 9 ?_;refine' tkL 10 ?_;refine wpAnyR_done (by kernel_rfl) ?_ _;intro x1 _ Ex1;clear pr8a pr8b pr8c;go_upto_region 6 with (fail)
   have pr9a:=fun u_ (h_:Ext x1 u_)=>((Ext.trans Ex1 h_).cell z0 0).trans c0
   have pr9b:=fun u_ (h_:Ext x1 u_)=>((Ext.trans Ex1 h_).cell hz1_0 0).trans ca
   have pr9c:=fun u_ (h_:Ext x1 u_)=>((Ext.trans Ex1 h_).cell hz1_1 0).trans cb
   have pr9d:=fun u_ (h_:Ext x1 u_)=>((Ext.trans Ex1 h_).cell zb (o+i)).trans gi'
   refine wp_region_seq (S:=fun W=>Ext x1 W) (R:=Ext) (by kernel_rfl) Ext.refl ?_ ?_
   . exact exx
   refine' tkL 0 ?_;refine' tkL 1 ?_;refine' tkL 2 ?_;refine' tkL 3 ?_;refine' tkL 4 ?_;refine' tkL 5 ?_;refine' tkL 6 ?_;refine' tkL 7 ?_;refine' tkL 8 ?_;refine' tkL 9 ?_;refine' tkL 10 ?_;refine' tkL 11 ?_;refine wpAnyR_done (by kernel_rfl) ?_ _;intro x2 _ Ex2;clear pr9a pr9b pr9c pr9d;have E2:=E1.trans (Ex1.trans Ex2);have E12:=Ex1.trans Ex2;have hr:=HR.out
   by_cases hlen:(l.length:Int)=n
   case neg=>
    rw [if_pos hlen] at hr
    cases hr
    have t0:((l.length:Int) != n)=true:=by simpa using hlen
    clear hlen
    go_wp2_with fail
    go_returns;exact ⟨rfl,E2⟩
   case pos=>
    rw [if_neg (by rw [hlen];simp)] at hr;have t0:((l.length:Int) != n)=false:=by simpa using hlen
    have ca2:=(E12.cell hz1_0 0).trans ca;have cb2:=(E12.cell hz1_1 0).trans cb;have N2:=hZ (H.out.ext E2);have S2:=hZ (HS.out.ext E2)
    cases hh:l.all S.has with
    | false=>
     rw [if_pos hh] at hr
     cases hr
     have HH:=hZ hh;clear hlen hh
     go_wp2_with (go_at_call 124;refine (every_any (enters_of Tryz.func128 (by kernel_rfl) rfl) S2.out (has_says N2.out S2.out.wf) HH.out).mono ?_;rintro e w3 ⟨rfl,hb3⟩;obtain ⟨hc3,hf3,hs3⟩:=hb3.cells)
     go_returns;exact ⟨rfl,E2.trans hb3⟩
    | true=>
     rw [if_neg (by rw [hh];simp)] at hr;simp only [Option.bind_eq_some_iff] at hr;obtain ⟨lb,hlb,hr⟩:=hr;have HH:=hZ hh;have LB:=hZ hlb;have LA:=hZ (laters_spec hlb).1;clear hlen hh hlb;have CA2:=hZ ca2;have CB2:=hZ cb2
     cases lb with
     | false=>
      rw [if_pos rfl] at hr
      cases hr
      go_upto_region 10 with (go_at_call 124;refine (every_any (enters_of Tryz.func128 (by kernel_rfl) rfl) S2.out (has_says N2.out S2.out.wf) HH.out).mono ?_;rintro e w3 ⟨rfl,hb3⟩;obtain ⟨hc3,hf3,hs3⟩:=hb3.cells)
      go_wp2_with (go_at_call 124;refine (every_any (enters_of Tryz.func158 (by kernel_rfl) rfl) (S2.out.ext hb3) (isL_says N2.out CA2.out CB2.out (by omega) (by omega) LB.out hb3) LA.out).mono ?_;rintro e w4 ⟨rfl,hb4⟩;obtain ⟨hc4,hf4,hs4⟩:=hb4.cells)
      go_returns;exact ⟨rfl,E2.trans (hb3.trans hb4)⟩
     | true=>
      rw [if_neg (by simp)] at hr
      cases hr
      go_upto_region 10 with (go_at_call 124;refine (every_any (enters_of Tryz.func128 (by kernel_rfl) rfl) S2.out (has_says N2.out S2.out.wf) HH.out).mono ?_;rintro e w3 ⟨rfl,hb3⟩;obtain ⟨hc3,hf3,hs3⟩:=hb3.cells)
      go_wp2_with (go_at_call 124;refine (every_any (enters_of Tryz.func158 (by kernel_rfl) rfl) (S2.out.ext hb3) (isL_says N2.out CA2.out CB2.out (by omega) (by omega) LB.out hb3) LA.out).mono ?_;rintro e w4 ⟨rfl,hb4⟩;obtain ⟨hc4,hf4,hs4⟩:=hb4.cells)
      go_returns;exact ⟨rfl,E2.trans (hb3.trans hb4)⟩
theorem full_eq (a:Nat) (S:Hp.Hs):Hp.Hs.full (a,S)=((a:Int),err8 a,S):=by
 unfold Hp.Hs.full err8
 by_cases h:a=0 <;> simp [h]
def Added (d:Hd) (w:World) (r:Int × Int × Hp.Hs) (e:Ending) (w':World):Prop:=e = .returned (.tuple #[.int .i64 r.1,.int .i64 r.2.1])/\Now w w' d r.2.2
theorem SliceAt.one (w:World) (n:Int) (h1 : -9223372036854775808<=n) (h2:n<=9223372036854775807) (t:TypeId):SliceAt (w.alloc (.cells #[.int .i64 n] t)) (some ⟨w.heap.size,0,none⟩) 1 [n]:=by
 refine ⟨by simp,by omega,by simp;omega,fun _=>⟨w.heap.size,0,rfl,by simp,fun j x hx=>?_⟩⟩
 cases j with
 | zero=>
  have:n=x:=by simpa [Hp.rd] using hx
  subst this;have:=World.cell?_alloc_mark w #[.int .i64 n] t (0,0) 0;rw [this];rfl
 | succ j=>simp [Hp.rd] at hx
theorem HAt.own_lt (h:HAt w d S):∀ b ∈ d.own,b < w.heap.size:=by
 intro b hb
 simp [Hd.own] at hb
 rcases hb with rfl | rfl | rfl
 . exact h.lt
 . exact h.words.lt
 exact h.map.lt
set_option maxRecDepth 100000 in
set_option maxHeartbeats 4000000 in
theorem End_any {n:Int} {r:Int × Int × Hp.Hs} (h:HAt w d S) (hf:f < 256) (hn1 : -9223372036854775808<=n) (hn2:n<=9223372036854775807) (hr:S.end' f n=some r) :
    Calls Tryz.prog 43 #[.pointer (some ⟨d.hb,0,none⟩),.agg #[.int .u8 f,.int .i64 n]] w (Added d w r):=by
  have H:=hZ (Now.refl h);clear h;unfold Hp.Hs.end' at hr
  by_cases h1:(f:Int) > 4
  . rw [if_pos (Or.inl h1)] at hr
    cases hr
    go_enter Tryz.func43,Tryz.ntmps43
    go_wp2_with (go_at_call 72;refine (isMade_yes (H.out.ext (exx)).toHAt).mono ?_;rintro e w1 ⟨rfl,hb1⟩;obtain ⟨hc1,hf1,hs1⟩:=hb1.cells;have hz1_0:w.heap.size < w1.heap.size:=(by have h:=hb1.le;(try simp at h);omega);have hc1_0:=hb1.cell (b:=w.heap.size) (by first | omega | (simp;done) | (simp;omega));have hf1_0:=hb1.frozen (b:=w.heap.size) (by first | omega | (simp;done) | (simp;omega)))
    go_ret2
    exact ⟨rfl,H.out.ext (exx)⟩
  by_cases h2:(f:Int) > 0/\n ≠ 0
  . rw [if_pos (Or.inr (Or.inl h2))] at hr
    cases hr
    have t0:(n != 0)=true:=by simpa using h2.2
    have h3:=h2.1;clear h2;go_enter Tryz.func43,Tryz.ntmps43
    go_wp2_with (go_at_call 72;refine (isMade_yes (H.out.ext (exx)).toHAt).mono ?_;rintro e w1 ⟨rfl,hb1⟩;obtain ⟨hc1,hf1,hs1⟩:=hb1.cells;have hz1_0:w.heap.size < w1.heap.size:=(by have h:=hb1.le;(try simp at h);omega);have hc1_0:=hb1.cell (b:=w.heap.size) (by first | omega | (simp;done) | (simp;omega));have hf1_0:=hb1.frozen (b:=w.heap.size) (by first | omega | (simp;done) | (simp;omega)))
    go_ret2
    exact ⟨rfl,H.out.ext (exx)⟩
  cases hw:Hp.within (-9999) 9999 n with
  | false=>
   rw [if_pos (Or.inr (Or.inr hw))] at hr
   cases hr
   by_cases hf0:f=0
   . subst hf0;clear h1 h2;have HW:=hZ hw;clear hw;go_enter Tryz.func43,Tryz.ntmps43
     go_wp2_with (first
      | (go_at_call 72;refine (isMade_yes (H.out.ext (exx)).toHAt).mono ?_;rintro e w1 ⟨rfl,hb1⟩;obtain ⟨hc1,hf1,hs1⟩:=hb1.cells;have hz1_0:w.heap.size < w1.heap.size:=(by have h:=hb1.le;(try simp at h);omega);have hc1_0:=hb1.cell (b:=w.heap.size) (by first | omega | (simp;done) | (simp;omega));have hf1_0:=hb1.frozen (b:=w.heap.size) (by first | omega | (simp;done) | (simp;omega)))
      | (go_at_call 105;refine ((HW.out ▸ within_any (-9999) 9999 n _)).mono ?_;rintro e w2 ⟨rfl,hb2⟩;obtain ⟨hc2,hf2,hs2⟩:=hb2.cells))
     go_ret2
     exact ⟨rfl,H.out.ext (exx)⟩
   have:n=0:=by
    apply Classical.byContradiction;intro hne;exact h2 ⟨by omega,hne⟩
   subst this;simp [Hp.within] at hw
  | true=>
   rw [if_neg (by rw [hw];simp;exact ⟨by omega,fun hx=>by
    apply Classical.byContradiction;intro hne;exact h2 ⟨by omega,hne⟩⟩)] at hr
   simp only [Option.bind_eq_bind,Option.bind_eq_some_iff,Option.pure_def,Option.some.injEq] at hr;obtain ⟨⟨a,S'⟩,ha,rfl⟩:=hr;rw [full_eq];have HA:=hZ ha;have HW:=hZ hw;clear ha hw;have key:∀ w2,Ext w w2->Calls Tryz.prog 107 #[.pointer (some ⟨d.hb,0,none⟩),.int .i64 (20+f),.slice (some ⟨w2.heap.size,0,none⟩) 1 1] (w2.alloc (.cells #[.int .i64 n] 3)) (fun e w'=>e = .returned (.int .i64 a)/\Now w w' d S'):=by
    intro w2 E;have E2:Ext w (w2.alloc (.cells #[.int .i64 n] 3)):=E.alloc _;refine (add_any (H.out.ext E2).toHAt (SliceAt.one w2 n hn1 hn2 3) (by simp) (fun b o e=>?_) HA.out).mono ?_
    . cases e
      intro hm;have:=H.out.toHAt.own_lt _ hm;have:=E.le;omega
    rintro e w' ⟨rfl,h1,h2⟩;exact ⟨rfl,h1,(But.ofExt E2).trans h2⟩
   have KEY:=hZ key;clear key
   by_cases hf0:f=0
   . subst hf0;clear h1 h2;go_enter Tryz.func43,Tryz.ntmps43
     go_wp2_with (first
      | (go_at_call 72;refine (isMade_yes (H.out.ext (exx)).toHAt).mono ?_;rintro e w1 ⟨rfl,hb1⟩;obtain ⟨hc1,hf1,hs1⟩:=hb1.cells;have hz1_0:w.heap.size < w1.heap.size:=(by have h:=hb1.le;(try simp at h);omega);have hc1_0:=hb1.cell (b:=w.heap.size) (by first | omega | (simp;done) | (simp;omega));have hf1_0:=hb1.frozen (b:=w.heap.size) (by first | omega | (simp;done) | (simp;omega)))
      | (go_at_call 105;refine ((HW.out ▸ within_any (-9999) 9999 n _)).mono ?_;rintro e w2 ⟨rfl,hb2⟩;obtain ⟨hc2,hf2,hs2⟩:=hb2.cells)
      | (go_at_call 107;refine (KEY.out _ (exx)).mono ?_;rintro e w3 ⟨rfl,N3⟩)
      | (go_at_call 106;refine (full_any a _).mono ?_;rintro e w4 ⟨rfl,hb4⟩;obtain ⟨hc4,hf4,hs4⟩:=hb4.cells))
     go_ret2
     exact ⟨rfl,N3.ext hb4⟩
   have hn0:n=0:=by
    apply Classical.byContradiction;intro hne;exact h2 ⟨by omega,hne⟩
   subst hn0;have q1:0 < (f:Int):=by omega
   have q2:(f:Int)<=4:=by omega
   clear h1 h2 hf0 hn1 hn2 HA;go_enter Tryz.func43,Tryz.ntmps43
   go_wp2_with (first
    | (go_at_call 72;refine (isMade_yes (H.out.ext (exx)).toHAt).mono ?_;rintro e w1 ⟨rfl,hb1⟩;obtain ⟨hc1,hf1,hs1⟩:=hb1.cells;have hz1_0:w.heap.size < w1.heap.size:=(by have h:=hb1.le;(try simp at h);omega);have hc1_0:=hb1.cell (b:=w.heap.size) (by first | omega | (simp;done) | (simp;omega));have hf1_0:=hb1.frozen (b:=w.heap.size) (by first | omega | (simp;done) | (simp;omega)))
    | (go_at_call 105;refine ((HW.out ▸ within_any (-9999) 9999 0 _)).mono ?_;rintro e w2 ⟨rfl,hb2⟩;obtain ⟨hc2,hf2,hs2⟩:=hb2.cells)
    | (go_at_call 107;refine (KEY.out _ (exx)).mono ?_;rintro e w3 ⟨rfl,N3⟩)
    | (go_at_call 106;refine (full_any a _).mono ?_;rintro e w4 ⟨rfl,hb4⟩;obtain ⟨hc4,hf4,hs4⟩:=hb4.cells))
   go_ret2
   exact ⟨rfl,N3.ext hb4⟩
theorem check_zero (h:S.checkNode choice l=some 0):∃ (i:Nat) (n:Int),choice=i/\i < S.sizes.length/\Hp.rd S.sizes i=some n/\(l.length:Int)=n:=by
 unfold Hp.Hs.checkNode at h
 split at h
 . cases h
 rename_i hw
 obtain ⟨i,rfl,hi⟩:=within_nat (by simpa using hw)
 simp only [Option.bind_eq_bind,Option.bind_eq_some_iff,Int.toNat_natCast] at h
 obtain ⟨n,hn,h⟩:=h
 split at h
 . cases h
 rename_i hl
 exact ⟨i,n,rfl,hi,hn,by simpa using hl⟩
set_option maxRecDepth 100000 in
set_option maxHeartbeats 4000000 in
theorem Make_any {r:Int × Int × Hp.Hs} (h:HAt w d S) (hs:SliceAt w p c l) (far:∀ b o,p=some ⟨b,o,none⟩->b ∉ d.own)
    (hc1 : -9223372036854775808<=choice) (hc2:choice<=9223372036854775807) (hr:S.make choice l=some r) :
    Calls Tryz.prog 44 #[.pointer (some ⟨d.hb,0,none⟩),.int .i64 choice,.slice p l.length c] w (Added d w r):=by
  unfold Hp.Hs.make at hr;simp only [Option.bind_eq_bind,Option.bind_eq_some_iff] at hr;obtain ⟨e0,he,hr⟩:=hr;have H:=hZ (Now.refl h);have HS:=hZ hs;have HE:=hZ he
  by_cases h0:e0=0
  case neg=>
   rw [if_pos h0] at hr
   cases hr
   have t0:(e0 != 0)=true:=by simpa using h0
   clear h hs he h0 far;go_enter Tryz.func44,Tryz.ntmps44
   go_wp2_with (go_at_call 108;refine (checkNode_any H.out.toHAt HS.out hc1 hc2 HE.out).mono ?_;rintro e w1 ⟨rfl,hb1⟩;obtain ⟨hc1,hf1,hs1⟩:=hb1.cells)
   go_ret2
   exact ⟨rfl,H.out.ext hb1⟩
  case pos=>
   subst h0;rw [if_neg (by simp)] at hr;obtain ⟨i,n,rfl,hi,hn,hl⟩:=check_zero he;have hsz:=sizes_le h hn;have h0l:0 < l.length:=by omega
   have hfew:=h.few;obtain ⟨y,hy⟩:=rd_get h0l;obtain ⟨b,o,hp,hb,hcell⟩:=hs.cells h0l;have g:=hcell 0 y hy;simp only [Nat.add_zero] at g;have hle:=hs.le;have hcap:=hs.cap;have FAR:=hZ far;subst hp
   cases ha:Hp.Hs.alike l with
   | true=>
    rw [if_pos ha] at hr;simp only [Option.bind_eq_some_iff] at hr;obtain ⟨y',hy',hr⟩:=hr
    cases hr
    have:y'=y:=by
     cases l with
     | nil=>cases hy
     | cons a r=>
      have e1:a=y':=by simpa using hy'
      have e2:a=y:=by simpa [Hp.rd] using hy
      rw [<- e1,e2]
    subst this;have HA:=hZ ha;clear h hs he hy hy' far ha hn hl hcell;have L0:=hZ h0l;have z:=hZ hb;go_enter Tryz.func44,Tryz.ntmps44
    go_wp2_with (first
     | (go_at_call 108;refine (checkNode_any H.out.toHAt HS.out hc1 hc2 HE.out).mono ?_;rintro e w1 ⟨rfl,hb1⟩;obtain ⟨hc1,hf1,hs1⟩:=hb1.cells)
     | (go_at_call 109;refine (alike_any (HS.out.ext hb1) L0.out HA.out).mono ?_;rintro e w2 ⟨rfl,hb2⟩;obtain ⟨hc2,hf2,hs2⟩:=hb2.cells;have g2:=((hb1.trans hb2).cell z.out o).trans g))
    go_ret2
    exact ⟨rfl,(H.out.ext hb1).ext hb2⟩
   | false=>
    rw [if_neg (by rw [ha];simp)] at hr;simp only [Option.bind_eq_some_iff,Option.pure_def,Option.some.injEq] at hr;obtain ⟨⟨a,S'⟩,had,rfl⟩:=hr;rw [full_eq];have HA:=hZ ha;have HAD:=hZ had;have L0:=hZ h0l;clear h hs he hy far ha hn hl hcell had g h0l;go_enter Tryz.func44,Tryz.ntmps44
    go_wp2_with (first
     | (go_at_call 108;refine (checkNode_any H.out.toHAt HS.out hc1 hc2 HE.out).mono ?_;rintro e w1 ⟨rfl,hb1⟩;obtain ⟨hc1,hf1,hs1⟩:=hb1.cells)
     | (go_at_call 109;refine (alike_any (HS.out.ext hb1) L0.out HA.out).mono ?_;rintro e w2 ⟨rfl,hb2⟩;obtain ⟨hc2,hf2,hs2⟩:=hb2.cells)
     | (go_at_call 107;refine (add_any ((H.out.ext hb1).ext hb2).toHAt ((HS.out.ext hb1).ext hb2) L0.out FAR.out HAD.out).mono ?_;rintro e w3 ⟨rfl,hA3,hB3⟩)
     | (go_at_call 106;refine (full_any a _).mono ?_;rintro e w4 ⟨rfl,hb4⟩;obtain ⟨hc4,hf4,hs4⟩:=hb4.cells))
    go_ret2
    exact ⟨rfl,(Now.mk hA3 ((But.ofExt (hb1.trans hb2)).trans hB3)).ext hb4⟩
def missing (n:Nat) (L:List Nat):Nat:=((List.range n).filter fun x=>!L.contains x).length
theorem missing_mono {L L':List Nat} (h:∀ x ∈ L,x ∈ L'):missing n L'<=missing n L:=by
 unfold missing
 generalize List.range n=R
 induction R with
 | nil=>simp
 | cons a r ih=>
  simp only [List.filter_cons]
  cases h1:L'.contains a <;> cases h2:L.contains a <;> simp only [Bool.not_true,Bool.not_false,Bool.false_eq_true,if_false,if_true,List.length_cons]
  . omega
  . exfalso;have h3:=h a (by simpa using h2);have h4:L'.contains a=true:=by simpa using h3
    rw [h1] at h4
    cases h4
  . omega
  exact ih
theorem missing_ins {L:List Nat} (ha:a < n) (hL:a ∉ L):missing n (Hp.Hs.insert a L) < missing n L:=by
 unfold missing
 have e:(List.range n).filter (fun x=>!(Hp.Hs.insert a L).contains x)=((List.range n).filter fun x=>!L.contains x).filter (fun x=>x != a):=by
  rw [List.filter_filter];apply List.filter_congr;intro x _
  by_cases hx:x=a
  . subst hx;simp [mem_ins]
  simp [mem_ins,hx]
 rw [e]
 have hm:a ∈ (List.range n).filter fun x=>!L.contains x:=by simp [ha,hL]
 generalize (List.range n).filter (fun x=>!L.contains x)=R at hm
 induction R with
 | nil=>cases hm
 | cons b r ih=>
  simp only [List.filter_cons]
  rcases List.mem_cons.1 hm with rfl | h
  . simp only [bne_self_eq_false,Bool.false_eq_true,if_false,List.length_cons];have:=List.length_filter_le (fun x=>x != a) r;omega
  split
  . simp only [List.length_cons];have:=ih h;omega
  have:=List.length_filter_le (fun x=>x != a) r;simp only [List.length_cons];omega
theorem sorted_len {L:List Nat} (hs:L.Pairwise (· < ·)) (hb:∀ a ∈ L,a < n):L.length<=n:=by
 have key:∀ (m:Nat) (T:List Nat),T.Pairwise (· < ·)->(∀ a ∈ T,m<=a/\a < n)->T.length+m<=n \/ T=[]:=by
  intro m T
  induction T generalizing m with
  | nil=>intro _ _;exact Or.inr rfl
  | cons a r ih=>
   intro hp hr;obtain ⟨h1,h2⟩:=List.pairwise_cons.1 hp;have ha:=hr a (by simp);left
   rcases ih (a+1) h2 (fun b hb=>⟨h1 b hb,(hr b (by simp [hb])).2⟩) with h | h
   . simp;omega
   subst h;simp;omega
 rcases key 0 L hs (fun a ha=>⟨Nat.zero_le _,hb a ha⟩) with h | h
 . omega
 subst h;simp
theorem Hp.Hs.Kids.lt (h:S.Kids a):a < S.words.length:=by
 obtain ⟨ks,l,h1,_⟩:=h
 obtain ⟨t,ht,_⟩:=kids_some h1
 exact rd_lt ht
structure Mk (w:World) (d:Hd) (S:Hp.Hs) (b1 b2 b3 gl:Nat) (L:List Nat):Prop extends HAt w d S where
 k1:w.cell? ⟨b1,0,none⟩=some (.map (some gl))
 k2:w.cell? ⟨b2,0,none⟩=some (.pointer (some ⟨d.hb,0,none⟩))
 k3:w.cell? ⟨b3,0,none⟩=some (.func (.func 138) #[] #[.pointer (some ⟨b1,0,none⟩),.pointer (some ⟨b2,0,none⟩),.pointer (some ⟨b3,0,none⟩)])
 mm:MapAt Tryz.prog w gl L
 mlt:∀ x ∈ L,x < S.words.length
 n1:b1 ≠ gl
 n2:b2 ≠ gl
 n3:b3 ≠ gl
 m0:d.hb ≠ gl
 m1:d.gw ≠ gl
 m2:d.gm ≠ gl
 m3:∀ b o,d.sp=some ⟨b,o,none⟩->b ≠ gl
 m4:∀ b o,d.op=some ⟨b,o,none⟩->b ≠ gl
namespace Mk
variable {w w':World} {d:Hd} {S:Hp.Hs} {b1 b2 b3 gl:Nat} {L L':List Nat}
theorem ext (h:Mk w d S b1 b2 b3 gl L) (k:Ext w w'):Mk w' d S b1 b2 b3 gl L:=
 { h with
   toHAt:=h.toHAt.ext k
   k1:=(k.cell (cell_lt h.k1) 0).trans h.k1
   k2:=(k.cell (cell_lt h.k2) 0).trans h.k2
   k3:=(k.cell (cell_lt h.k3) 0).trans h.k3
   mm:=h.mm.ext k }
theorem put (h:Mk w d S b1 b2 b3 gl L) (k:But [gl] w w') (hm:MapAt Tryz.prog w' gl L') (hl:∀ x ∈ L',x < S.words.length):Mk w' d S b1 b2 b3 gl L':=
 { h with
   toHAt:=h.toHAt.but k (by simp [h.m0]) (by simp [h.m1]) (by simp [h.m2]) (fun b o e=>by simp [h.m3 b o e]) (fun b o e=>by simp [h.m4 b o e])
   k1:=(k.cell (cell_lt h.k1) (by simp [h.n1]) 0).trans h.k1
   k2:=(k.cell (cell_lt h.k2) (by simp [h.n2]) 0).trans h.k2
   k3:=(k.cell (cell_lt h.k3) (by simp [h.n3]) 0).trans h.k3
   mm:=hm
   mlt:=hl }
end Mk
structure Marked (S:Hp.Hs) (L L':List Nat) (a:Nat):Prop where
 up:∀ x ∈ L,x ∈ L'
 self:a ∈ L'
 reach:∀ x ∈ L',x ∈ L \/ S.Reach [a] x
 closed:∀ x ∈ L',x ∈ L \/ ∀ b,S.Kid x b->b ∈ L'
def MarkPost (w:World) (d:Hd) (S:Hp.Hs) (b1 b2 b3 gl:Nat) (L:List Nat) (a:Nat) (e:Ending) (w':World):Prop:=
 e = .returned (.tuple #[]) /\ ∃ L',Mk w' d S b1 b2 b3 gl L'/\But [gl] w w'/\Marked S L L' a
theorem adrs_rd {ks:List Int} {l:List Nat} (h:Hp.Hs.adrs ks=some l):l.length=ks.length /\ ∀ (j:Nat) (x:Int),Hp.rd ks j=some x -> ∃ k:Nat,l[j]? = some k/\x=k:=by
 induction ks generalizing l with
 | nil=>
  simp [Hp.Hs.adrs] at h;subst h;exact ⟨rfl,fun j x hx=>by cases hx⟩
 | cons a r ih=>
  unfold Hp.Hs.adrs at h;rw [List.mapM_cons] at h;simp only [Option.bind_eq_bind,Option.bind_eq_some_iff,Option.pure_def,Option.some.injEq] at h;obtain ⟨k,hk,l',hl',rfl⟩:=h;obtain ⟨h1,h2⟩:=ih hl';refine ⟨by simp [h1],fun j x hx=>?_⟩
  cases j with
  | zero=>
   have:a=x:=by simpa [Hp.rd] using hx
   subst this;exact ⟨k,rfl,adr_some hk⟩
  | succ j=>simpa using h2 j x (by simpa [Hp.rd] using hx)
structure Marking (S:Hp.Hs) (L Lj:List Nat) (a:Nat) (l:List Nat) (j:Nat):Prop where
 up:∀ x ∈ L,x ∈ Lj
 self:a ∈ Lj
 kids:∀ i k,i < j->l[i]? = some k->k ∈ Lj
 reach:∀ x ∈ Lj,x ∈ L \/ S.Reach [a] x
 closed:∀ x ∈ Lj,x ∈ L \/ x=a \/ ∀ b,S.Kid x b->b ∈ Lj
theorem mark_done {b1 b2 b3 gl:Nat} {L:List Nat} (h:Mk w d S b1 b2 b3 gl L) (hL:a ∈ L) :
    Calls Tryz.prog 138 #[.int .i64 a,.pointer (some ⟨b1,0,none⟩),.pointer (some ⟨b2,0,none⟩),.pointer (some ⟨b3,0,none⟩)] w (MarkPost w d S b1 b2 b3 gl L a):=by
  have hal:=h.mlt a hL;have sm:=h.small;have H:=hZ h;have k1:=h.k1;have hlk:=h.mm.look (t:=102) Tryz.underlying3 Tryz.underlying4 Tryz.underlying102 (Tryz.zeroValue4 w) (x:=a) (by omega) (by omega);rw [hasLit_int,show L.contains a=true by simpa using hL] at hlk;have HL:=hZ hL;clear h hL;go_enter Tryz.func138,Tryz.ntmps138
  go_wp2_with fail
  go_returns;exact ⟨rfl,L,H.out,But.refl _ _,fun x hx=>hx,HL.out,fun x hx=>.inl hx,fun x hx=>.inl hx⟩
set_option maxRecDepth 100000 in
set_option maxHeartbeats 4000000 in
theorem mark_any (k:Nat):∀ (w:World) (d:Hd) (S:Hp.Hs) (b1 b2 b3 gl a:Nat) (L:List Nat) (_:missing S.words.length L<=k) (_:Mk w d S b1 b2 b3 gl L) (_:∀ x,S.Reach [a] x->S.Kids x),
    Calls Tryz.prog 138 #[.int .i64 a,.pointer (some ⟨b1,0,none⟩),.pointer (some ⟨b2,0,none⟩),.pointer (some ⟨b3,0,none⟩)] w (MarkPost w d S b1 b2 b3 gl L a):=by
  induction k with
  | zero=>
   intro w d S b1 b2 b3 gl a L hm h hk;have hal:=(hk a (.root (by simp))).lt;have hL:a ∈ L:=by
    apply Classical.byContradiction;intro hL;have:=missing_ins hal hL;omega
   exact mark_done h hL
  | succ k ih=>
   intro w d S b1 b2 b3 gl a L hm h hk;have hka:=hk a (.root (by simp));have hal:=hka.lt;have sm:=h.small;have H:=hZ h;have k1:=h.k1
   by_cases hL:a ∈ L
   . exact mark_done h hL
   have hlk:=h.mm.look (t:=102) Tryz.underlying3 Tryz.underlying4 Tryz.underlying102 (Tryz.zeroValue4 w) (x:=a) (by omega) (by omega);rw [hasLit_int,show L.contains a=false by simpa using hL] at hlk;obtain ⟨x1,hup,hmx,htx⟩:=h.mm.put (t:=102) Tryz.underlying3 Tryz.underlying4 Tryz.underlying102 (by have:=sorted_len h.mm.sorted h.mlt;unfold maxLen;omega) (a:=a) (by omega);have B1:But [gl] w x1:=(But.refl _ _).turned htx (.inl (by simp));have M1:=hZ (h.put B1 hmx (fun x hx=>by
    rcases (mem_ins a x L).1 hx with rfl | hx
    . exact hal
    . exact h.mlt x hx))
   have hmis:=missing_ins hal hL;obtain ⟨ks,l,hks,hl⟩:=hka;obtain ⟨t,ht,hkq⟩:=kids_some hks;obtain ⟨hll,hlr⟩:=adrs_rd hl;have HK:=hZ hk;have HKS:=hZ hks;have HLL:=hZ hl;have HT:=hZ ht;have HLR:=hZ hlr;have BB:=hZ B1;have HIH:=hZ ih;have LL:=hZ hll;clear h hk hkq hks hl ht hlr hmx htx B1 ih hll hL;have k1':=M1.out.k1;have k2':=M1.out.k2;go_enter Tryz.func138,Tryz.ntmps138
   go_wp2_with (go_at_call 80;refine (kids_any M1.out.toHAt HT.out HKS.out).mono ?_;rintro e w1 ⟨rfl,hb1⟩;obtain ⟨hc1,hf1,hs1⟩:=hb1.cells)
   have M2:=hZ (M1.out.ext hb1);have B2:=hZ (BB.out.ext hb1);have K2:=hZ (kids_at M2.out.toHAt HT.out HKS.out);generalize hpk:kp d a t=pk at K2;have hpn:∀ b o,pk=some ⟨b,o,none⟩->b=d.gw:=by
    intro b o e;rw [<- hpk] at e;unfold kp at e
    split at e
    . cases e
    cases e;rfl
   have HPN:=hZ hpn;have KL:=hZ K2.out.le;have ksm:ks.length<=1000000:=by
    obtain ⟨t',_,hq⟩:=kids_some HKS.out
    rcases hq with ⟨_,rfl⟩ | ⟨_,hf⟩
    . simp
    obtain ⟨_,q,_,_,h1,h2,_⟩:=fields_some hf;omega
   have MG0:Marking S L (Hp.Hs.insert a L) a l 0:=
    ⟨fun x hx=>(mem_ins a x L).2 (.inr hx),(mem_ins a a L).2 (.inl rfl),fun i k hi=>absurd hi (Nat.not_lt_zero _),
     fun x hx=>by
      rcases (mem_ins a x L).1 hx with rfl | hx
      . exact .inr (.root (by simp))
      exact .inl hx,
     fun x hx=>by
      rcases (mem_ins a x L).1 hx with rfl | hx
      . exact .inr (.inl rfl)
      . exact .inl hx⟩
   clear hpk hpn M1 BB hb1 hc1 hf1 hs1 hlk hup k1 k1' k2'
   go_loopg [16] ks.length (fun g i wr=>∃ (j:Nat) (Lj:List Nat),j<=ks.length/\ks.length-j<=g/\i = .int .i64 j/\Hid (Mk wr d S b1 b2 b3 gl Lj)/\Hid (But [gl] w wr)/\Hid (SliceAt wr pk ks.length ks)/\Aside (Marking S L Lj a l j))
   case atStart=>exact ⟨0,_,Nat.zero_le _,by omega,rfl,M2,B2,K2,MG0⟩
   case round=>
    obtain ⟨j,Lj,hj,hg,rfl,M,B,K,MG⟩:=hrel;clear M2 B2 K2
    by_cases hlt:j < ks.length
    . obtain ⟨x,hx⟩:=rd_get hlt;obtain ⟨kd,hkd,rfl⟩:=HLR.out j x hx;obtain ⟨b,o,hpb,hb,hcell⟩:=K.out.cells (by omega);have gx:=hcell j kd hx;have K3:=M.out.k3;have hkid:S.Kid a kd:=⟨ks,l,HKS.out,HLL.out,List.mem_of_getElem? hkd⟩
      have hmj:missing S.words.length Lj<=k:=by
       have h1:missing S.words.length Lj<=missing S.words.length (Hp.Hs.insert a L):=missing_mono (fun y hy=>by
        rcases (mem_ins a y L).1 hy with rfl | hy
        . exact MG.out.self
        . exact MG.out.up y hy)
       omega
      have hreach:∀ y,S.Reach [kd] y->S.Reach [a] y:=fun y hy=>hy.mono (fun z hz=>by
       have:z=kd:=by simpa using hz
       subst this;exact .step (.root (by simp)) hkid)
      have CALL:=hZ (HIH.out wr d S b1 b2 b3 gl kd Lj hmj M.out (fun y hy=>HK.out y (hreach y hy)));have HKD:=hZ hkd;have HRE:=hZ hreach;clear hx hcell hmj hreach hkd hkid;subst hpb
      go_wp2_with fail
      refine (Calls.mono CALL.out ?_);rintro e w' ⟨rfl,L',M',B',MD⟩
      go_wp2_with fail
      have bne:b ≠ gl:=by
       rw [HPN.out b o rfl];exact M.out.m1
      go_roundg (ks.length-(j+1))
      case measure=>omega
      case rel=>
       refine ⟨j+1,L',by omega,Nat.le_refl _,by go_num,hZ M',hZ (B.out.trans B'),hZ (K.out.but B' (fun b' o' e=>by cases e;simp [bne])),(show Aside _ from ?_)⟩;refine ⟨fun x hx=>MD.up x (MG.out.up x hx),MD.up a MG.out.self,fun i k hi hk=>?_,fun x hx=>?_,fun x hx=>?_⟩
       . by_cases e:i=j
         . subst e;have:=HKD.out;rw [hk] at this
           cases this
           exact MD.self
         exact MD.up k (MG.out.kids i k (by omega) hk)
       . rcases MD.reach x hx with h | h
         . exact MG.out.reach x h
         exact .inr (HRE.out x h)
       rcases MD.closed x hx with h | h
       . rcases MG.out.closed x h with h | h | h
         . exact .inl h
         . exact .inr (.inl h)
         exact .inr (.inr fun b hb=>MD.up b (h b hb))
       exact .inr (.inr h)
    have:j=ks.length:=by omega
    subst this
    go_wp2_with fail
    go_returns;refine ⟨rfl,Lj,M.out,B.out,MG.out.up,MG.out.self,MG.out.reach,fun x hx=>?_⟩
    rcases MG.out.closed x hx with h | rfl | h
    . exact .inl h
    . refine .inr fun b hb=>?_
      obtain ⟨ks',l',h1,h2,hb⟩:=hb;have e1:=HKS.out;rw [h1] at e1
      cases e1
      have e2:=HLL.out;rw [h2] at e2
      cases e2
      obtain ⟨i,hi,rfl⟩:=List.getElem_of_mem hb;exact MG.out.kids i _ (by have:=LL.out;omega) (List.getElem?_eq_getElem hi)
    exact .inr h
open Go.RowKit Go.Maps
theorem but_grown {r:Nat} (h:w.grownBy w' (some r)):But [r] w w':=
 ⟨h.os,h.tape,h.output,h.size,fun i hi hn=>h.block i hi (fun e=>hn (by cases e;simp))⟩
theorem ranges_of {H:Type} {P:Program} {k:TypeId} {R:Value->Option (DataW H × List MemPlace)} {r:Nat} {D:DataW H} {left:Lit->Bool} {cnt:Nat} (h:w.ranges P k R b r n D left cnt) (e1:w'.heap[b]? = w.heap[b]?) (e2:w'.heap[r]? = w.heap[r]?):w'.ranges P k R b r n D left cnt:=by
 obtain ⟨es,clock,since,seen,c0,h1,h2,h3,h4,h5,h6⟩:=h
 exact ⟨es,clock,since,seen,c0,e1.trans h1,h2,h3,h4,e2.trans h5,h6⟩
theorem wpList_next_taken {P:Program} (w:World) {ops:Array Oper} {rest:List Oper} {o:Oper} {a:Act} {Q:Exit->Act->World->Prop} (hg:o.guard=none) (it:Operand) (hop:o.op=Op.next it false)
    (hk:P.underlying 3=some (.int .i64)) (he:P.underlying 4=some .bool) (b r n:Nat) (T:List Nat) (left:Lit->Bool) (cnt:Nat) (hit:a.eval it = .pointer (some ⟨r,0,none⟩))
    (h:w.ranges P 3 (plainElem (H:=Unit) P 4) b r n (mapOf T) left cnt)
    (hDone:(∀ kl,left kl=false)->wpList P ops Q rest (a.put o.dst (.tuple #[.bool false])) w)
    (hMore:∀ (x:Nat) (c:Value) (w':World) (cnt':Nat),x ∈ T->w'.ranges P 3 (plainElem (H:=Unit) P 4) b r n (mapOf T) (fun z=>left z && !z.sameKey (.int .i64 x)) cnt'->cnt' < cnt ->
     But [r] w w'->(Instr.entry (.pointer (some ⟨r,0,none⟩))).run P w' = .ok (.tuple #[.int .i64 x,c]) w'->wpList P ops Q rest (a.put o.dst (.tuple #[.bool true,.int .i64 x,c])) w') :
    wpList P ops Q (o :: rest) a w:=by
  refine wpList_next_ranges w hg it hop 3 (int_keyed hk) (plainElem (H:=Unit) P 4) (Value.int .i64) Value.bool (fun key kl hkey=>by obtain ⟨x,rfl,_⟩:=Maps.keyOf_int_inv hk hkey;exact ⟨x,rfl⟩)
   (fun v y hv=>by
    unfold plainElem at hv;rw [he] at hv
    cases v <;> simp at hv
    exact ⟨_,rfl⟩) b r n _ left cnt hit h (fun _ hl=>hDone hl) ?_
  intro x c kl y w' cnt' hkey hl hv hat hrg hlt hgr _ hen;obtain ⟨x',ex,rfl,_⟩:=Maps.keyOf_int_inv hk hkey
  cases ex
  have hy:y=(.lit (.bool c),[]):=by
   unfold plainElem at hv;rw [he] at hv
   simpa using hv.symm
  subst hy;have hin:hasLit T (.int .i64 x)=true:=by
   cases hh:hasLit T (.int .i64 x) with
   | true=>rfl
   | false=>
    have:=hat (.map []);rw [at_mapOf_false hh] at this
    cases this
  obtain ⟨m,hm,e⟩:=(hasLit_iff T _).1 hin
  cases e
  exact hMore m (.bool c) w' cnt' hm hrg hlt (but_grown hgr) hen
namespace Mk
variable {w w':World} {d:Hd} {S:Hp.Hs} {b1 b2 b3 gl:Nat} {L L':List Nat}
theorem but (h:Mk w d S b1 b2 b3 gl L) {r:Nat} (k:But [r] w w') (h0:∀ b ∈ d.own,b ≠ r) (h1:b1 ≠ r) (h2:b2 ≠ r) (h3:b3 ≠ r) (h4:gl ≠ r) (h5:∀ b o,d.sp=some ⟨b,o,none⟩->b ≠ r) (h6:∀ b o,d.op=some ⟨b,o,none⟩->b ≠ r):Mk w' d S b1 b2 b3 gl L:=
 { h with
   toHAt:=h.toHAt.but k (by simpa using h0 _ d.hb_own) (by simpa using h0 _ d.gw_own) (by simpa using h0 _ d.gm_own) (fun b o e=>by simpa using h5 b o e) (fun b o e=>by simpa using h6 b o e)
   k1:=(k.cell (cell_lt h.k1) (by simpa using h1) 0).trans h.k1
   k2:=(k.cell (cell_lt h.k2) (by simpa using h2) 0).trans h.k2
   k3:=(k.cell (cell_lt h.k3) (by simpa using h3) 0).trans h.k3
   mm:=h.mm.but k (by simpa using h4) }
end Mk
structure LiveInv (S:Hp.Hs) (R L:List Nat) (left:Lit->Bool):Prop where
 reach:∀ x ∈ L,S.Reach R x
 closed:∀ x ∈ L,∀ b,S.Kid x b->b ∈ L
 roots:∀ x:Nat,x ∈ R->left (.int .i64 x)=false->x ∈ L
theorem LiveInv.done {R L:List Nat} {left:Lit->Bool} (h:LiveInv S R L left) (hl:∀ kl,left kl=false) (hL:L.Pairwise (· < ·)) (hT:T.Pairwise (· < ·)) (hR:∀ x,x ∈ T ↔ S.Reach R x):L=T:=by
 have key:∀ x,S.Reach R x->x ∈ L:=by
  intro x hx
  induction hx with
  | root hx=>exact h.roots _ hx (hl _)
  | step _ hk ih=>exact h.closed _ ih _ hk
 exact Hp.Hs.sorted_ext hL hT fun x=>⟨fun hx=>(hR x).2 (h.reach x hx),fun hx=>key x ((hR x).1 hx)⟩
theorem left_false {left:Lit->Bool} {y x:Nat} (h:(left (.int .i64 y) && !(Lit.int .i64 y).sameKey (.int .i64 x))=false):left (.int .i64 y)=false \/ y=x:=by
 by_cases e:y=x
 . exact .inr e
 left
 have:(Lit.int .i64 (y:Int)).sameKey (.int .i64 x)=false:=by
  simp [Lit.sameKey];omega
 rw [this] at h
 simpa using h
def LivePost (w:World) (T:List Nat) (e:Ending) (w':World):Prop:=∃ g,e = .returned (.map (some g))/\w.heap.size<=g/\MapAt Tryz.prog w' g T/\Ext w w'
namespace Mk
theorem cut {P:Program} {c:Code} {Q:Exit->Act->World->Prop} {a:Act} {W:World} {b1 b2 b3 gl:Nat} {L:List Nat} (h:Mk W d S b1 b2 b3 gl L) (e:Ext w W) (hs:W.heap.size=w.heap.size+4)
    (k:∀ w',Mk w' d S b1 b2 b3 gl L->Ext w w'->w'.heap.size=w.heap.size+4->c.wp P Q a w'):c.wp P Q a W:=k W h e hs
theorem start (h:HAt w d S) {t1 t2 t3:TypeId}:Mk ((((w.alloc (.cells #[.pointer (some ⟨d.hb,0,none⟩)] t1)).alloc (.map #[] 0)).alloc (.cells #[.map (some (w.heap.size+1))] t2)).alloc (.cells #[.func (.func 138) #[] #[.pointer (some ⟨w.heap.size+1+1,0,none⟩),.pointer (some ⟨w.heap.size,0,none⟩),.pointer (some ⟨w.heap.size+1+1+1,0,none⟩)]] t3))
    d S (w.heap.size+1+1) w.heap.size (w.heap.size+1+1+1) (w.heap.size+1) []:=by
  have ho:=h.own_lt;have q0:=ho _ d.hb_own;have q1:=ho _ d.gw_own;have q2:=ho _ d.gm_own;refine ⟨h.ext exx, ?_, ?_, ?_, ?_,by simp,by omega,by omega,by omega,by omega,by omega,by omega,fun b o e=>by have:=h.old1 b o e;omega,fun b o e=>by have:=h.old2 b o e;omega⟩
  . go_simp
  . go_simp
  . go_simp
  refine ⟨?_,List.Pairwise.nil⟩;have:=World.ownsMap_made (w.alloc (.cells #[.pointer (some ⟨d.hb,0,none⟩)] t1)) Tryz.prog 3 (plainElem (H:=Unit) Tryz.prog 4);have:=(this.alloc (.cells #[.map (some (w.heap.size+1))] t2)).alloc (.cells #[.func (.func 138) #[] #[.pointer (some ⟨w.heap.size+1+1,0,none⟩),.pointer (some ⟨w.heap.size,0,none⟩),.pointer (some ⟨w.heap.size+1+1+1,0,none⟩)]] t3)
  simpa [mapOf] using this
end Mk
set_option maxRecDepth 100000 in
set_option maxHeartbeats 4000000 in
theorem live_any (h:HAt w d S) (hr:S.live=some T) :
    Calls Tryz.prog 73 #[.pointer (some ⟨d.hb,0,none⟩)] w (LivePost w T):=by
  obtain ⟨R,hR,hT,hTR,hKids⟩:=Hp.Hs.live_spec hr;have H:=hZ h;have HRH:=hZ hR;have HT:=hZ hT;have HTR:=hZ hTR;have HKI:=hZ hKids;clear h hr hR hT hTR hKids;have hmm:=@run_makeMap Tryz.prog;go_enter Tryz.func73,Tryz.ntmps73;go_upto_region 4 with (fail)
  refine Mk.cut (w:=w) (d:=d) (S:=S) (b1:=w.heap.size+1+1) (b2:=w.heap.size) (b3:=w.heap.size+1+1+1) (gl:=w.heap.size+1) (L:=[]) ?start ?_ (by simp) ?rest
  case start=>exact Mk.start H.out
  . exact exx
  intro w0 M0 E0 sz;have M:=hZ M0;have k2:=M.out.k2;have c3:=M.out.c3;have ownd:=M.out.map.owns;have z1:=H.out.own_lt;clear M0
  go_wp2_with (at_range;refine wpList_range_own _ rfl _ 102 rfl 3 4 (int_keyed Tryz.underlying3) Tryz.underlying102 _ d.gm _ _ rfl ownd ?_;intro w1 hrg0 hg0 hs0;go_frame)
  have E1:Ext w0 w1:=⟨hg0.os,hg0.tape,hg0.output,hg0.size,fun k hk=>hg0.block k hk (by simp)⟩
  have M1:=hZ (M.out.ext E1);have E01:=hZ (E0.trans E1);have LI0:LiveInv S R [] (Maps.has (mapOf S.taken)):=⟨by simp,by simp,fun x hx hl=>by
   have h1:=((Hp.Hs.held_spec HRH.out) x).1 hx;rw [has_mapOf,hasLit_int] at hl;have:S.taken.contains x=true:=by simpa using h1.1
   rw [this] at hl
   cases hl⟩
  have RG:=hZ hrg0;have sz1:w0.heap.size < w1.heap.size:=by omega
  clear hrg0 ownd c3 k2 M hg0 hs0 E1 z1 hmm E0;have sz2:w.heap.size+4<=w0.heap.size:=by omega
  clear sz;generalize w0.heap.size=rr at RG sz1 sz2 ⊢
  go_loopg [5] (Maps.size (mapOf S.taken)) (fun g _ wr=>∃ (left:Lit->Bool) (cnt:Nat) (L:List Nat),cnt<=g/\Hid (wr.ranges Tryz.prog 3 (plainElem (H:=Unit) Tryz.prog 4) d.gm rr S.taken.length (mapOf S.taken) left cnt)/\Hid (Mk wr d S (w.heap.size+1+1) w.heap.size (w.heap.size+1+1+1) (w.heap.size+1) L)/\Hid (Ext w wr)/\Aside (LiveInv S R L left))
  case atStart=>exact ⟨_,_,[],Nat.le_refl _,RG,M1,E01,LI0⟩
  case round=>
   obtain ⟨left,cnt,L,hg,RR,MR,ER,LI⟩:=hrel;clear RG M1 E01;have k1:=MR.out.k1
   go_wp2_with (at_next;refine wpList_next_taken _ rfl _ rfl Tryz.underlying3 Tryz.underlying4 d.gm rr _ S.taken left cnt rfl RR.out ?_ ?_)
   . intro hl
     go_wp2_with fail
     go_returns;refine ⟨_,rfl,by omega, ?_,ER.out⟩;have:=LI.out.done hl MR.out.mm.sorted HT.out HTR.out;rw [<- this];exact MR.out.mm
   intro x c w' cnt' hx hrg' hlt hbut hen;have o0:=H.out.own_lt;have ne0:∀ b ∈ d.own,b ≠ rr:=fun b hb=>by have:=o0 b hb;omega
   have MN:=hZ (MR.out.but hbut ne0 (by omega) (by omega) (by omega) (by omega) (fun b o e=>by have:=H.out.old1 b o e;omega) (fun b o e=>by have:=H.out.old2 b o e;omega));have EN:=hZ (But.toExt ER.out hbut (by simp;omega));obtain ⟨v,hv⟩:=Hp.Hs.held_rd HRH.out x hx;have hvl:=rd_lt hv;have gv:=MN.out.words.get hv;have k2:=MN.out.k2;have k3:=MN.out.k3;have c2:=MN.out.c2;have sm:=MN.out.small;have hlen:=MN.out.le;have hcap:=MN.out.cap;have RN:=hZ hrg';have HV:=hZ hv;have HX:=hZ hx;clear hrg' hbut o0 ne0 hv hx
   by_cases hp:v > 0
   . have hxR:x ∈ R:=(Hp.Hs.held_spec HRH.out x).2 ⟨HX.out,v,HV.out,hp⟩;have CALL:=hZ (mark_any _ w' d S _ _ _ _ x L (Nat.le_refl _) MN.out (fun y hy=>HKI.out y (hy.mono fun z hz=>by
      have:z=x:=by simpa using hz
      subst this;exact .root hxR)))
     have HXR:=hZ hxR;clear hxR
     go_wp2_with fail
     refine (Calls.mono CALL.out ?_);rintro e w2 ⟨rfl,L',M',B',MD⟩
     go_wp2_with fail
     go_roundg cnt'
     case measure=>omega
     case rel=>
      have q:=H.out.own_lt _ d.gm_own;refine ⟨_,cnt',L',Nat.le_refl _,hZ (ranges_of RN.out (B'.block _ MN.out.map.lt (by simp;omega)) (B'.block _ RN.out.lt (by simp;omega))),hZ M',hZ (But.toExt EN.out B' (by simp)),(show Aside _ from ?_)⟩;refine ⟨fun y hy=>?_,fun y hy b hb=>?_,fun y hy hl=>?_⟩
      . rcases MD.reach y hy with h | h
        . exact LI.out.reach y h
        exact h.mono fun z hz=>by
         have:z=x:=by simpa using hz
         subst this;exact .root HXR.out
      . rcases MD.closed y hy with h | h
        . exact MD.up b (LI.out.closed y h b hb)
        exact h b hb
      rcases left_false hl with h | rfl
      . exact MD.up y (LI.out.roots y hy h)
      exact MD.self
   go_wp2_with fail
   go_roundg cnt'
   case measure=>omega
   case rel=>
    refine ⟨_,cnt',L,Nat.le_refl _,RN,MN,EN,(show Aside _ from ⟨LI.out.reach,LI.out.closed,fun y hy hl=>?_⟩)⟩
    rcases left_false hl with h | rfl
    . exact LI.out.roots y hy h
    obtain ⟨_,v',hv',hp'⟩:=(Hp.Hs.held_spec HRH.out y).1 hy;have e:=HV.out;rw [hv'] at e
    cases e
    omega
open Go.RowKit Go.Maps
theorem unlinkFrom_succ {W':List Int} {link:Nat} (h:Hp.Hs.unlinkFrom T n W link=some W'):∃ n' a,n=n'+1/\Hp.ra W link=some a /\
    ((a=0/\W'=W) \/ (a ≠ 0/\T.contains a=true/\Hp.Hs.unlinkFrom T n' W (a+3)=some W') \/ (a ≠ 0/\T.contains a=false /\ ∃ x W1,Hp.rd W (a+3)=some x/\Hp.wr W link x=some W1/\Hp.Hs.unlinkFrom T n' W1 link=some W')):=by
  cases n with
  | zero=>simp [Hp.Hs.unlinkFrom] at h
  | succ n=>
   unfold Hp.Hs.unlinkFrom at h;simp only [Option.bind_eq_bind,Option.bind_eq_some_iff] at h;obtain ⟨a,ha,h⟩:=h;refine ⟨n,a,rfl,ha, ?_⟩
   split at h
   . rename_i h0;exact .inl ⟨h0,by simpa using h.symm⟩
   rename_i h0
   split at h
   . rename_i hc;exact .inr (.inl ⟨h0,hc,h⟩)
   rename_i hc;simp only [Option.bind_eq_some_iff] at h;obtain ⟨x,hx,W1,hW,h⟩:=h;exact .inr (.inr ⟨h0,by simpa using hc,x,W1,hx,hW,h⟩)
theorem unlinks_cons {W':List Int} (hk:k < 16) (h:Hp.Hs.unlinks T n W ((List.range 16).drop k)=some W'):∃ W1,Hp.Hs.unlinkFrom T n W k=some W1/\Hp.Hs.unlinks T n W1 ((List.range 16).drop (k+1))=some W':=by
 rw [List.drop_eq_getElem_cons (by simpa using hk)] at h
 simp only [Hp.Hs.unlinks,Option.bind_eq_bind,Option.bind_eq_some_iff,List.getElem_range] at h
 exact h
theorem unlink_len:∀ {n:Nat} {T:List Nat} {W W':List Int} {link:Nat},Hp.Hs.unlinkFrom T n W link=some W'->W'.length=W.length
 | 0,_,_,_,_,h=>by simp [Hp.Hs.unlinkFrom] at h
 | n+1,T,W,W',link,h=>by
  obtain ⟨n',a,hn,_,hq⟩:=unlinkFrom_succ h;obtain rfl:n=n':=by omega
  rcases hq with ⟨_,rfl⟩ | ⟨_,_,h1⟩ | ⟨_,_,x,W1,_,h1,h2⟩
  . rfl
  . exact unlink_len h1
  rw [unlink_len h2,(HAt.wr_len h1).1]
set_option maxRecDepth 100000 in
set_option maxHeartbeats 8000000 in
theorem unlink_any {gl:Nat} (h:HAt w d S) (hl:MapAt Tryz.prog w gl T) (hg:gl ∉ d.own) (hr:S.unlink T=some S') :
    Calls Tryz.prog 160 #[.pointer (some ⟨d.hb,0,none⟩),.map (some gl)] w (Turned d w (.tuple #[]) S'):=by
  unfold Hp.Hs.unlink at hr;simp only [Option.bind_eq_bind,Option.bind_eq_some_iff,Option.pure_def,Option.some.injEq] at hr;obtain ⟨W',hW,rfl⟩:=hr;have sm:=h.small;have hle:=h.le;have hcap:=h.cap;have H:=hZ (Now.refl h);have HU:=hZ (show Hp.Hs.unlinks T S.fuel S.words ((List.range 16).drop 0)=some W' from hW);have HG:=hZ hg;have ML:=hZ hl;have apn:=h.apart1;have apn':=h.apart1.symm;clear h hl hg hW;generalize hn:S.words.length=n at sm hle;have EN:=hZ hn;clear hn;go_enter Tryz.func160,Tryz.ntmps160
  go_wp2_with fail
  go_loopg [6] 16 (fun g i wr=>∃ (k:Nat) (W:List Int),k<=16/\16-k<=g/\i = .int .i64 k/\Hid (Now w wr d { S with words:=W })/\Hid (Hp.Hs.unlinks T S.fuel W ((List.range 16).drop k)=some W')/\Hid (W.length=n))
  case atStart=>exact ⟨0,S.words,by omega,by omega,rfl,H,HU,EN⟩
  case round=>
   obtain ⟨k,W,hk,hgk,rfl,N,U,EL⟩:=hrel;clear H HU
   by_cases hlt:k < 16
   . obtain ⟨W1,h1,h2⟩:=unlinks_cons hlt U.out;have U1:=hZ h1;have U2:=hZ h2;obtain ⟨fu,a,_,ha,_⟩:=unlinkFrom_succ h1;have A:=hZ ha;have L1:=hZ ((unlink_len h1).trans EL.out);have gcell:=N.out.words.get (ra_some ha);have lk:=rd_lt (ra_some ha);have c2:=N.out.len EL.out;rw [EL.out] at lk;clear h1 h2 ha U;have tk:decide ((k:Int) < 16)=true:=by simpa using (by omega:(k:Int) < 16)
     go_wp2_with fail
     clear tk
     go_loopg [4,5] S.fuel (fun g l s wx=>∃ (m link a:Nat) (V:List Int),m<=g/\l = .int .i64 link/\s = .int .i64 a/\link < n/\Hid (Now w wx d { S with words:=V })/\Hid (Hp.ra V link=some a)/\Hid (Hp.Hs.unlinkFrom T m V link=some W1)/\Hid (V.length=n))
     case atStart=>exact ⟨S.fuel,k,a,W,Nat.le_refl _,rfl,rfl,lk,N,A,U1,EL⟩
     case round=>
      obtain ⟨m,link,b,V,hm,rfl,rfl,hll,NV,AV,UV,LV⟩:=hrel;clear N A U1 EL gcell c2;obtain ⟨n',b',hn',hb',hq⟩:=unlinkFrom_succ UV.out;have e:=AV.out;rw [hb'] at e
      cases e
      have HN:=hZ hn';clear hn' hb'
      rcases hq with ⟨rfl,rfl⟩ | ⟨hb0,hct,hq⟩ | ⟨hb0,hct,x,V1,hx,hV,hq⟩
      . go_wp2_with fail
        go_roundg (16-(k+1))
        case measure=>omega
        case rel=>exact ⟨k+1,_,by omega,Nat.le_refl _,by go_num,NV,U2,LV⟩
      . have t0:((b:Int) != 0)=true:=by simpa using hb0
        obtain ⟨_,b2,_,hb2,_⟩:=unlinkFrom_succ hq;have g2:=NV.out.words.get (ra_some hb2);have l2:=rd_lt (ra_some hb2);rw [LV.out] at l2;have c2:=NV.out.len LV.out;have MX:=ML.out.but NV.out.but HG.out;have hlk:=MX.look (t:=102) Tryz.underlying3 Tryz.underlying4 Tryz.underlying102 (Tryz.zeroValue4 _) (x:=b) (by omega) (by omega);rw [hasLit_int,hct] at hlk;have B2:=hZ hb2;have HQ:=hZ hq;clear hb2 hq MX hct hb0
        go_wp2_with fail
        go_roundg n'
        case measure=>have:=HN.out;omega
        case rel=>exact ⟨n',b+3,b2,V,Nat.le_refl _,by go_num,rfl,l2,NV,B2,HQ,LV⟩
      have t0:((b:Int) != 0)=true:=by simpa using hb0
      obtain ⟨_,b2,_,hb2,_⟩:=unlinkFrom_succ hq;have HBX:=NV.out.words.bound hx;have hbx1:=HBX.1;have hbx2:=HBX.2;have l3:=rd_lt hx;rw [LV.out] at l3;have c2:=NV.out.len LV.out;have MX:=ML.out.but NV.out.but HG.out;have hlk:=MX.look (t:=102) Tryz.underlying3 Tryz.underlying4 Tryz.underlying102 (Tryz.zeroValue4 _) (x:=b) (by omega) (by omega);rw [hasLit_int,hct] at hlk;have B2:=hZ hb2;have HQ:=hZ hq;have HX:=hZ hx;have EV:=hZ hV;have LV1:=hZ ((HAt.wr_len hV).1.trans LV.out);clear hb2 hq MX hct hb0 HBX hx hV;go_upto_region 8 with (fail)
      clear hlk c2;refine wp_region_still_tail 13 (by kernel_rfl) (by kernel_rfl) ?_;change wpStill _ _ (World.drew wr) (fun a'=>wpList _ _ _ _ a' (World.drew wr)) _ _;have ED:Ext wr (World.drew wr):=Ext.drew (Ext.refl _);have ND:=hZ (NV.out.ext ED);generalize World.drew wr=wd at ND ED ⊢;have c3:=ND.out.c3;have f2:=ND.out.f2;have z1:=ND.out.lt;have z2:=ND.out.words.lt;have c2':=ND.out.len LV.out;have g1:=ND.out.words.get HX.out;have g0:=ND.out.words.get (ra_some AV.out);have fr:=ND.out.words.froz link;obtain ⟨i1,i2,i3,i4⟩:IntKind.i64.wrap (((b:Nat):Int)+3)=((b:Nat):Int)+3/\(0:Int)<=((b:Nat):Int)+3/\((b:Nat):Int)+3 < ((n:Nat):Int)/\(((b:Nat):Int)+3).toNat=b+3:=⟨IntWalk.i64_in _ (by omega),by omega,by omega,by omega⟩
      simp only [List.take_succ_cons,List.take_zero,List.drop_succ_cons,List.drop_zero]
      repeat still_step
      refine wpStill_nil ?_;clear i1 i2 i3 i4 g1;have N1:=hZ (ND.out.set EV.out hbx1 hbx2);go_upto_region 5 with (fail)
      refine Now.cut N1.out ?_;clear N1 ND g0 fr f2 c3 c2' z1 z2 ED;intro w5 N5;have N6:=hZ N5;clear N5;have c2:=N6.out.len LV1.out;have g2:=N6.out.words.get (ra_some B2.out)
      go_wp2_with fail
      go_roundg n'
      case measure=>have:=HN.out;omega
      case rel=>exact ⟨n',link,b2,V1,Nat.le_refl _,rfl,rfl,hll,N6,B2,HQ,LV1⟩
   have:k=16:=by omega
   subst this;have hu:=U.out;rw [show (List.range 16).drop 16=[] from rfl] at hu;obtain rfl:W=W':=by simpa [Hp.Hs.unlinks] using hu
   clear hu U
   go_wp2_with fail
   go_returns;exact N.out.done
theorem wpList_delete_taken {ops:Array Oper} {rest:List Oper} {o:Oper} {a:Act} {Q:Exit->Act->World->Prop} (hg:o.guard=none) (m x:Operand)
    (hop:o.op=Op.call { callee:=Callee.builtin Builtin.delete,args:=#[m,x],argTypes:=#[102,3] }) {g k:Nat} {T:List Nat} (hm:a.eval m = .map (some g)) (hx:a.eval x = .int .i64 k) (h:MapAt Tryz.prog w g T) (hk:(k:Int)<=9223372036854775807)
    (hK:∀ w',MapAt Tryz.prog w' g (T.erase k)->w.mapTurned w' g->wpList Tryz.prog ops Q rest (a.put o.dst (.tuple #[])) w'):wpList Tryz.prog ops Q (o :: rest) a w:=by
  refine wpList_plain hg fun K' hK'=>?_
  obtain ⟨w',hrun,r1,r2⟩:=h.del (t:=102) Tryz.underlying3 Tryz.underlying102 hk o.type;unfold Oper.wp;simp [execOp,hop,resolve,invoke,builtin,hm,hx,hrun,Result.andThen];exact hK' _ _ (hK w' r1 r2)
theorem seek_succ {before link:Nat} {r:Nat × Nat} (h:Hp.Hs.seek W a n before link=some r):∃ n' next,n=n'+1/\Hp.ra W link=some next /\
    ((next ≠ 0/\next < a/\Hp.Hs.seek W a n' next (next+2)=some r) \/ (¬ (next ≠ 0/\next < a)/\r=(before,link))):=by
  cases n with
  | zero=>simp [Hp.Hs.seek] at h
  | succ n=>
   unfold Hp.Hs.seek at h;simp only [Option.bind_eq_bind,Option.bind_eq_some_iff] at h;obtain ⟨next,hx,h⟩:=h;refine ⟨n,next,rfl,hx, ?_⟩
   split at h
   . rename_i hc;exact .inl ⟨hc.1,hc.2,h⟩
   rename_i hc;exact .inr ⟨hc,by simpa using h.symm⟩
def freeTail (W:List Int) (a before link:Nat) (wide next:Int):Option (List Int):=do
 let joined <- (if before ≠ 0 then do some (decide (before+(<- Hp.rc W (before+1))=a)) else some false:Option Bool)
 if joined then
  let w <- Hp.rc W (before+1)
  Hp.wr (<- Hp.wr W (before+1) (w+wide)) (before+2) next
 else
  Hp.wr (<- Hp.wr (<- Hp.wr W (a+1) wide) (a+2) next) link a
theorem freeTail_some {W':List Int} {before link:Nat} {wide next:Int} (h:freeTail W a before link wide next=some W') :
    (before ≠ 0 /\ ∃ v,Hp.rc W (before+1)=some v/\(before:Int)+v=a /\ ∃ W1,Hp.wr W (before+1) (v+wide)=some W1/\Hp.wr W1 (before+2) next=some W') \/
    ((before=0 \/ (before ≠ 0 /\ ∃ v,Hp.rc W (before+1)=some v/\(before:Int)+v ≠ a)) /\ ∃ W1 W2,Hp.wr W (a+1) wide=some W1/\Hp.wr W1 (a+2) next=some W2/\Hp.wr W2 link a=some W'):=by
  unfold freeTail at h;simp only [Option.bind_eq_bind,Option.bind_eq_some_iff] at h;obtain ⟨j,hj,h⟩:=h
  by_cases hb:before=0
  . rw [if_neg (by simp [hb])] at hj
    cases hj
    rw [if_neg (by simp)] at h;simp only [Option.bind_eq_some_iff] at h;obtain ⟨W1,h1,W2,h2,h3⟩:=h;exact .inr ⟨.inl hb,_,_,h1,h2,h3⟩
  rw [if_pos hb] at hj;simp only [Option.bind_eq_some_iff,Option.some.injEq] at hj;obtain ⟨v,hv,rfl⟩:=hj
  by_cases hc:(before:Int)+v=a
  . rw [if_pos (decide_eq_true hc)] at h;simp only [Option.bind_eq_some_iff] at h;obtain ⟨v',hv',W1,h1,h2⟩:=h;rw [hv] at hv'
    cases hv'
    exact .inl ⟨hb,v,hv,hc,W1,h1,h2⟩
  rw [if_neg (by simp [hc])] at h;simp only [Option.bind_eq_some_iff] at h;obtain ⟨W1,h1,W2,h2,h3⟩:=h;exact .inr ⟨.inr ⟨hb,v,hv,hc⟩,_,_,h1,h2,h3⟩
theorem free_some (h:S.free a=some S'):∃ t k W before link next,S.tag a=some t/\Hp.wide S.sizes t=some k/\Hp.zero S.words a k=some W/\Hp.Hs.seek W a S.fuel 0 16=some (before,link)/\Hp.rd W link=some next /\
    ∃ W',S' = { S with words:=W',taken:=S.taken.erase a } /\ ((next=((a+k:Nat):Int) /\ ∃ after v W1 W2,Hp.rd W (a+k+2)=some after/\Hp.rc W (a+k+1)=some v/\Hp.ck ((k:Int)+v)=some ((k:Int)+v)/\Hp.wr W (a+k+1) 0=some W1/\Hp.wr W1 (a+k+2) 0=some W2/\freeTail W2 a before link ((k:Int)+v) after=some W') \/
     (next ≠ ((a+k:Nat):Int)/\freeTail W a before link (k:Int) next=some W')):=by
  unfold Hp.Hs.free at h;simp only [Option.bind_eq_bind,Option.bind_eq_some_iff] at h;obtain ⟨k,hk,W,hW,⟨before,link⟩,hs,next,hx,⟨wd,nx,W2⟩,hq,j,hj,h⟩:=h;obtain ⟨t,ht,hk⟩:=Option.bind_eq_some_iff.1 hk;refine ⟨t,k,W,before,link,next,ht,hk,hW,hs,hx, ?_⟩
  have key:∀ V (wd nx:Int) ,(∃ j,(if before ≠ 0 then (Hp.rc V (before+1)).bind fun v=>some (decide ((before:Int)+v=a)) else some false)=some j /\
      (if j=true then (Hp.rc V (before+1)).bind fun v=>(Hp.wr V (before+1) (v+wd)).bind fun W1=>(Hp.wr W1 (before+2) nx).bind fun W3=>some ({ S with words:=W3,taken:=S.taken.erase a }:Hp.Hs) else
       (Hp.wr V (a+1) wd).bind fun W1=>(Hp.wr W1 (a+2) nx).bind fun W3=>(Hp.wr W3 link a).bind fun W4=>some ({ S with words:=W4,taken:=S.taken.erase a }:Hp.Hs))=some S') ->
      ∃ W',S' = { S with words:=W',taken:=S.taken.erase a } /\ freeTail V a before link wd nx=some W':=by
    rintro V wd nx ⟨j,hj,h⟩
    cases j with
    | true=>
     rw [if_pos rfl] at h;simp only [Option.bind_eq_some_iff,Option.some.injEq] at h;obtain ⟨v,hv,W1,h1,W3,h3,rfl⟩:=h;refine ⟨W3,rfl, ?_⟩;unfold freeTail;simp only [Option.bind_eq_bind];rw [hj];simp [hv,h1,h3]
    | false=>
     rw [if_neg (by simp)] at h;simp only [Option.bind_eq_some_iff,Option.some.injEq] at h;obtain ⟨W1,h1,W3,h3,W4,h4,rfl⟩:=h;refine ⟨W4,rfl, ?_⟩;unfold freeTail;simp only [Option.bind_eq_bind];rw [hj];simp [h1,h3,h4]
  by_cases hn:next=((a+k:Nat):Int)
  . rw [if_pos hn] at hq;simp only [Option.bind_eq_some_iff,Option.some.injEq,Prod.mk.injEq] at hq;obtain ⟨after,ha,v,hv,c,hc,V1,h1,V2,h2,rfl,rfl,rfl⟩:=hq;obtain ⟨rfl,_⟩:=ck_some hc;obtain ⟨W',e,hW'⟩:=key _ _ _ ⟨j,hj,h⟩;exact ⟨W',e,.inl ⟨hn,_,v,V1,_,ha,hv,hc,h1,h2,hW'⟩⟩
  rw [if_neg hn] at hq;simp only [Option.some.injEq,Prod.mk.injEq] at hq;obtain ⟨rfl,rfl,rfl⟩:=hq;obtain ⟨W',e,hW'⟩:=key _ _ _ ⟨j,hj,h⟩;exact ⟨W',e,.inr ⟨hn,hW'⟩⟩
open Go
section
variable {P:Program} {ops:Array Oper} {Q:Exit->Act->World->Prop} {md:Region.Mode} {R:World->World->Prop}
def stepOk (md:Region.Mode) (ops:Array Oper) (k:Nat) (o:Oper) (b:Bool) (l:List Oper):Bool:=
 o.after.all (fun e=>!Region.binds md e || decide (e.on < k)) &&
 (if b then l.all (fun oj=>oj.after.any fun e=>Region.binds md e && decide (k<=e.on)) else l.all (fun oj=>oj.after.any (fun e=>Region.binds md e && e.on == k) || o.apart ops oj))
def planL (md:Region.Mode) (ops:Array Oper):List Oper->List Bool->Nat->Bool
 | [],[],_=>true
 | o :: l,b :: r,k=>stepOk md ops k o b l && planL md ops l r (k+1)
 | _,_,_=>false
structure Upto (ops:Array Oper) (k:Nat) (listed:Array Bool):Prop where
 size:listed.size=ops.size
 at_:∀ (j:Nat) (d:Bool),j < ops.size->listed.getD j d=decide (j < k)
theorem Upto.set {listed:Array Bool} (h:Upto ops k listed):Upto ops (k+1) (listed.setIfInBounds k true):=by
 refine ⟨by simp [h.size],fun j d hj=>?_⟩
 by_cases e:k=j
 . subst e;have:k < listed.size:=by rw [h.size];exact hj
   simp [this]
 rw [getD_set_ne d e,h.at_ j d hj]
 have:(j < k+1)=(j < k):=by
  apply propext;omega
 simp only [this]
inductive Plan (P:Program) (ops:Array Oper) (Q:Exit->Act->World->Prop) (R:World->World->Prop):(World->Prop)->List Oper->List Bool->Act->World->Prop
 | done {S:World->Prop} {a:Act} {w:World} (h:∀ w',R w w'->S w'->Q .normal a w'):Plan P ops Q R S [] [] a w
 | take {S:World->Prop} {o:Oper} {v:Value} {l:List Oper} {r:List Bool} {a:Act} {w:World} (hy:YieldsOn P ops S R o v a) (h:Plan P ops Q R S l r (a.put o.dst v) w):Plan P ops Q R S (o :: l) (false :: r) a w
 | run {S:World->Prop} {o:Oper} {l:List Oper} {r:List Bool} {a:Act} {w:World} (V:Value->World->Prop) (hw:Region.wanted o (yielded ops a.tmps)=true)
     (hrun:∀ w',R w w'->S w'->(∃ f args,(execOp a.eval o).run P w' = .ok (.enter f args) w'/\Calls P f args w' fun e w''=>∃ v,e = .returned v/\V v w'') \/ ∃ v w'',(execOp a.eval o).run P w' = .ok (.value v) w''/\V v w'')
     (hVS:∀ v w'',V v w'' -> ∀ W,R w'' W->S W) (h:∀ v w'',V v w''->Plan P ops Q R (fun W=>R w'' W) l r (a.put o.dst v) w''):Plan P ops Q R S (o :: l) (true :: r) a w
theorem any_mem {α:Type} {p:α->Bool} {xs:Array α} (h:xs.any p=true):∃ x,x ∈ xs/\p x=true:=by
 obtain ⟨i,hi,h⟩:=Array.any_eq_true.1 h
 exact ⟨xs[i],by simp,h⟩
theorem stepOk_ready {o:Oper} {b:Bool} {l:List Oper} {listed:Array Bool} (hk:ops[k]? = some o) (hu:Upto ops k listed) (h:stepOk md ops k o b l=true):k ∈ Region.ready md ops listed:=by
 have hks:=(Array.getElem?_eq_some_iff.1 hk).1
 simp only [stepOk,Bool.and_eq_true] at h
 refine mem_ready.2 ⟨by rw [hu.at_ k _ hks];simp,o,hk,fun e he hb=>?_⟩
 have:=Array.all_eq_true_iff_forall_mem.1 h.1 e he
 rw [hb] at this
 simp only [Bool.not_true,Bool.false_or,decide_eq_true_eq] at this
 rw [hu.at_ e.on _ (by omega)]
 simpa using this
theorem Plan.anyR (hR:∀ w,R w w) (hT:∀ a b c,R a b->R b c->R a c) (hs:Region.noSelect ops=true) (hQ:∀ c a d v w,Q (.panic c) (Act.put a d v) w->Q (.panic c) a w) {S:World->Prop} {l:List Oper} {pl:List Bool} {a:Act} (h:Plan P ops Q R S l pl a w) :
    ∀ {k:Nat} {listed:Array Bool},(∀ j:Nat,l[j]? = ops[k+j]?)->Upto ops k listed->planL md ops l pl k=true->wpAnyR P md ops Q S R l.length listed a w:=by
  induction h with
  | done h=>
   intro k listed hl hu _;refine wpAnyR_done ?_ h _;refine List.eq_nil_iff_forall_not_mem.2 fun j hj=>?_
   obtain ⟨h1,o,h2,_⟩:=mem_ready.1 hj;have hjs:=(Array.getElem?_eq_some_iff.1 h2).1;rw [hu.at_ j _ hjs] at h1;have h1:¬ j < k:=by simpa using h1
   have:=hl (j-k);rw [show k+(j-k)=j by omega,h2] at this;simp at this
  | @take S o v l r a w hy _ ih=>
   intro k listed hl hu hb;simp only [planL,Bool.and_eq_true] at hb;have hi:ops[k]? = some o:=by simpa using (hl 0).symm
   have hl':∀ j:Nat,l[j]? = ops[k+1+j]? := fun j=>by have:=hl (j+1);rw [show k+(j+1)=k+1+j by omega] at this;simpa using this
   refine wpAnyR_first hR hT hi (Region.noSelect_spec hs) (fun c a w h=>hQ c a _ _ w h) _ listed a w (fun j oj hoj hne hun hno=>?_) (stepOk_ready hi hu hb.1) hy (ih hl' hu.set hb.2);have hjs:=(Array.getElem?_eq_some_iff.1 hoj).1;rw [hu.at_ j _ hjs] at hun;have hun:¬ j < k:=by simpa using hun
   have hm:oj ∈ l:=by
    refine List.mem_of_getElem? (i:=j-(k+1)) ?_;rw [hl',show k+1+(j-(k+1))=j by omega];exact hoj
   have h1:=hb.1;simp only [stepOk,Bool.and_eq_true,Bool.false_eq_true,if_false] at h1;have h2:=List.all_eq_true.1 h1.2 oj hm;simp only [Bool.or_eq_true] at h2
   rcases h2 with h2 | h2
   . obtain ⟨e,he,h3⟩:=any_mem h2;simp only [Bool.and_eq_true,beq_iff_eq] at h3;exact absurd h3.2 (hno e he h3.1)
   exact h2
  | @run S o l r a w V hw hrun hVS _ ih=>
   intro k listed hl hu hb;simp only [planL,Bool.and_eq_true] at hb;have hi:ops[k]? = some o:=by simpa using (hl 0).symm
   have hl':∀ j:Nat,l[j]? = ops[k+1+j]? := fun j=>by have:=hl (j+1);rw [show k+(j+1)=k+1+j by omega] at this;simpa using this
   refine wpAnyR_do V hR hT hi (stepOk_ready hi hu hb.1) (fun j hj=>?_) hw hrun hVS (fun v w'' hv=>ih v w'' hv hl' hu.set hb.2);obtain ⟨hun,oj,hoj,hall⟩:=mem_ready.1 hj;have hjs:=(Array.getElem?_eq_some_iff.1 hoj).1;rw [hu.at_ j _ hjs] at hun;have hun:¬ j < k:=by simpa using hun
   apply Classical.byContradiction;intro hne;have hm:oj ∈ l:=by
    refine List.mem_of_getElem? (i:=j-(k+1)) ?_;rw [hl',show k+1+(j-(k+1))=j by omega];exact hoj
   have h1:=hb.1;simp only [stepOk,Bool.and_eq_true,if_true] at h1;obtain ⟨e,he,h3⟩:=any_mem (List.all_eq_true.1 h1.2 oj hm);simp only [Bool.and_eq_true,decide_eq_true_eq] at h3;have h4:=hall e he h3.1
   rcases Nat.lt_or_ge e.on ops.size with h5 | h5
   . rw [hu.at_ e.on _ h5] at h4;have h4:e.on < k:=by simpa using h4
     omega
   have:listed.size<=e.on:=by rw [hu.size];exact h5
   simp [Array.getD,show ¬ e.on < listed.size by omega] at h4
theorem wp_region_plan {S:World->Prop} {id:Nat} {l:List Oper} {a:Act} (pl:List Bool) (hm:P.follows .mixedOrders=true) (hR:∀ w,R w w) (hT:∀ a b c,R a b->R b c->R a c) (hs:Region.noSelect l.toArray=true)
    (hQ:∀ c a d v w,Q (.panic c) (Act.put a d v) w->Q (.panic c) a w) (hb:planL .any l.toArray l pl 0=true) (hS:S w.drew)
    (h:∀ ops,ops=l.toArray->Plan P ops Q R S l pl a w.drew):(Code.region id l.toArray true).wp P Q a w:=by
  refine wp_region_seq hm hR hS ?_;exact (h _ rfl).anyR hR hT hs hQ (k:=0) (fun j=>by simp) ⟨by simp,fun j d hj=>by
   have:j < l.length:=by simpa using hj
   simp [Array.getD,this]⟩ hb
end
section
variable {P:Program} {ops L:Array Oper} {Q:Exit->Act->World->Prop} {R:World->World->Prop} {S:World->Prop} {o:Oper} {v:Value} {l:List Oper} {r:List Bool} {a:Act} {w:World}
theorem tkQ (hops:RowKit.Hid (ops=L)) (hy:∀ w,S w->(execOp a.eval o).run P w = .ok (.value v) w) (h:Plan P ops Q R S l r (a.put o.dst v) w) (hw:Region.wanted o (yielded L a.tmps)=true:=by rfl):Plan P ops Q R S (o :: l) (false :: r) a w:=Plan.take (Or.inl (Or.inl ⟨by rw [hops.out];exact hw,hy⟩)) h
theorem tkP {q:Prop} (hops:RowKit.Hid (ops=L)) (h:q) (hy:∀ w,S w->(execOp a.eval o).run P w = .ok (.value v) w:=by intro w q;go_simp;try with_reducible rfl) (e:Plan P ops Q R S l r (a.put o.dst v) w=q:=by first | (simp only [List.getElem_toArray,List.getElem_cons_zero,List.getElem_cons_succ,Act.put,List.setIfInBounds_toArray,List.set_cons_zero,List.set_cons_succ];exact rfl) | exact rfl) (hw:Region.wanted o (yielded L a.tmps)=true:=by rfl):Plan P ops Q R S (o :: l) (false :: r) a w:=Plan.take (Or.inl (Or.inl ⟨by rw [hops.out];exact hw,hy⟩)) (e.mpr h)
end
end Go.Proofs.YtdokmmhjmclmnaaGreat
