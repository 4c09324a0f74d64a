/-
  Part 5 of a proof: HFn14 HFn15 HFn16 HFn17.
-/
import Derived.Laws.EntriesVeiled
import Derived.Maps.RangeWalk
import Derived.Test.YtdokmmhjmclmnaaGreatMN04
set_option linter.unusedSimpArgs false
set_option linter.unusedVariables false
set_option linter.unusedSectionVars false
set_option linter.unnecessarySimpa false
namespace Go.Proofs.YtdokmmhjmclmnaaGreat
open Go.RowKit Go.Maps
theorem but_grown {w w':World} {r:Nat} (h:w.grownBy w' (some r)):But [r] w w':=
 ⟨h.os,h.tape,h.output,h.size,fun i hi hn=>h.block i hi (fun e=>hn (by cases e;simp))⟩
theorem ranges_of {H:Type} {P:Program} {k:TypeId} {R:Value → Option (DataW H × List MemPlace)} {w w':World} {b r n:Nat} {D:DataW H} {left:Lit → Bool} {cnt:Nat} (h:w.ranges P k R b r n D left cnt) (e1:w'.heap[b]? = w.heap[b]?) (e2:w'.heap[r]? = w.heap[r]?):w'.ranges P k R b r n D left cnt:=by
 obtain ⟨es,clock,since,seen,c0,h1,h2,h3,h4,h5,h6⟩:=h
 exact ⟨es,clock,since,seen,c0,e1.trans h1,h2,h3,h4,e2.trans h5,h6⟩
theorem wpList_next_taken {P:Program} (w:World) {ops:Array Oper} {rest:List Oper} {o:Oper} {a:Act} {Q:Exit → Act → World → Prop} (hg:o.guard=none) (it:Operand) (hop:o.op=Op.next it false)
    (hk:P.underlying 3=some (.int .i64)) (he:P.underlying 4=some .bool) (b r n:Nat) (T:List Nat) (left:Lit → Bool) (cnt:Nat) (hit:a.eval it = .pointer (some ⟨r,0,none⟩))
    (h:w.ranges P 3 (plainElem (H:=Unit) P 4) b r n (mapOf T) left cnt)
    (hDone:(∀ kl,left kl=false) → wpList P ops Q rest (a.put o.dst (.tuple #[.bool false])) w)
    (hMore:∀ (x:Nat) (c:Value) (w':World) (cnt':Nat),x ∈ T → w'.ranges P 3 (plainElem (H:=Unit) P 4) b r n (mapOf T) (fun z=>left z && !z.sameKey (.int .i64 x)) cnt' → cnt' < cnt →
     But [r] w w' → (Instr.entry (.pointer (some ⟨r,0,none⟩))).run P w' = .ok (.tuple #[.int .i64 x,c]) w' → wpList P ops Q rest (a.put o.dst (.tuple #[.bool true,.int .i64 x,c])) w') :
    wpList P ops Q (o :: rest) a w:=by
  refine wpList_next_ranges w hg it hop 3 (int_keyed hk) (plainElem (H:=Unit) P 4) (Value.int .i64) Value.bool (fun key kl hkey=>by obtain ⟨x,rfl,_⟩:=Maps.keyOf_int_inv hk hkey;exact ⟨x,rfl⟩)
   (fun v y hv=>by
    unfold plainElem at hv;rw [he] at hv
    cases v <;> simp at hv
    exact ⟨_,rfl⟩) b r n _ left cnt hit h (fun _ hl=>hDone hl) ?_
  intro x c kl y w' cnt' hkey hl hv hat hrg hlt hgr _ hen;obtain ⟨x',ex,rfl,_⟩:=Maps.keyOf_int_inv hk hkey
  cases ex
  have hy:y=(.lit (.bool c),[]):=by
   unfold plainElem at hv;rw [he] at hv
   simpa using hv.symm
  subst hy;have hin:hasLit T (.int .i64 x)=true:=by
   cases hh:hasLit T (.int .i64 x) with
   | true=>rfl
   | false=>
    have:=hat (.map []);rw [at_mapOf_false hh] at this
    cases this
  obtain ⟨m,hm,e⟩:=(hasLit_iff T _).1 hin
  cases e
  exact hMore m (.bool c) w' cnt' hm hrg hlt (but_grown hgr) hen
namespace Mk
variable {w w':World} {d:Hd} {S:Hp.Hs} {b1 b2 b3 gl:Nat} {L L':List Nat}
theorem but (h:Mk w d S b1 b2 b3 gl L) {r:Nat} (k:But [r] w w') (h0:∀ b ∈ d.own,b ≠ r) (h1:b1 ≠ r) (h2:b2 ≠ r) (h3:b3 ≠ r) (h4:gl ≠ r) (h5:∀ b o,d.sp=some ⟨b,o,none⟩ → b ≠ r) (h6:∀ b o,d.op=some ⟨b,o,none⟩ → b ≠ r):Mk w' d S b1 b2 b3 gl L:=
 { h with
   toHAt:=h.toHAt.but k (by simpa using h0 _ d.hb_own) (by simpa using h0 _ d.gw_own) (by simpa using h0 _ d.gm_own) (fun b o e=>by simpa using h5 b o e) (fun b o e=>by simpa using h6 b o e)
   k1:=(k.cell (cell_lt h.k1) (by simpa using h1) 0).trans h.k1
   k2:=(k.cell (cell_lt h.k2) (by simpa using h2) 0).trans h.k2
   k3:=(k.cell (cell_lt h.k3) (by simpa using h3) 0).trans h.k3
   mm:=h.mm.but k (by simpa using h4) }
end Mk
structure LiveInv (S:Hp.Hs) (R L:List Nat) (left:Lit → Bool):Prop where
 reach:∀ x ∈ L,S.Reach R x
 closed:∀ x ∈ L,∀ b,S.Kid x b → b ∈ L
 roots:∀ x:Nat,x ∈ R → left (.int .i64 x)=false → x ∈ L
theorem LiveInv.done {S:Hp.Hs} {R L T:List Nat} {left:Lit → Bool} (h:LiveInv S R L left) (hl:∀ kl,left kl=false) (hL:L.Pairwise (· < ·)) (hT:T.Pairwise (· < ·)) (hR:∀ x,x ∈ T ↔ S.Reach R x):L=T:=by
 have key:∀ x,S.Reach R x → x ∈ L:=by
  intro x hx
  induction hx with
  | root hx=>exact h.roots _ hx (hl _)
  | step _ hk ih=>exact h.closed _ ih _ hk
 exact Hp.Hs.sorted_ext hL hT fun x=>⟨fun hx=>(hR x).2 (h.reach x hx),fun hx=>key x ((hR x).1 hx)⟩
theorem left_false {left:Lit → Bool} {y x:Nat} (h:(left (.int .i64 y) && !(Lit.int .i64 y).sameKey (.int .i64 x))=false):left (.int .i64 y)=false ∨ y=x:=by
 by_cases e:y=x
 · exact .inr e
 · left;have:(Lit.int .i64 (y:Int)).sameKey (.int .i64 x)=false:=by
    simp [Lit.sameKey];omega
   rw [this] at h
   simpa using h
def LivePost (w:World) (T:List Nat) (e:Ending) (w':World):Prop:=∃ g,e = .returned (.map (some g)) ∧ w.heap.size ≤ g ∧ MapAt Tryz.prog w' g T ∧ Ext w w'
namespace Mk
theorem cut {P:Program} {c:Code} {Q:Exit → Act → World → Prop} {a:Act} {w W:World} {d:Hd} {S:Hp.Hs} {b1 b2 b3 gl:Nat} {L:List Nat} (h:Mk W d S b1 b2 b3 gl L) (e:Ext w W) (hs:W.heap.size=w.heap.size+4)
    (k:∀ w',Mk w' d S b1 b2 b3 gl L → Ext w w' → w'.heap.size=w.heap.size+4 → c.wp P Q a w'):c.wp P Q a W:=k W h e hs
theorem start {w:World} {d:Hd} {S:Hp.Hs} (h:HAt w d S) {t1 t2 t3:TypeId}:Mk ((((w.alloc (.cells #[.pointer (some ⟨d.hb,0,none⟩)] t1)).alloc (.map #[] 0)).alloc (.cells #[.map (some (w.heap.size+1))] t2)).alloc (.cells #[.func (.func 138) #[] #[.pointer (some ⟨w.heap.size+1+1,0,none⟩),.pointer (some ⟨w.heap.size,0,none⟩),.pointer (some ⟨w.heap.size+1+1+1,0,none⟩)]] t3))
    d S (w.heap.size+1+1) w.heap.size (w.heap.size+1+1+1) (w.heap.size+1) []:=by
  have ho:=h.own_lt;have q0:=ho _ d.hb_own;have q1:=ho _ d.gw_own;have q2:=ho _ d.gm_own;refine ⟨h.ext exx, ?_, ?_, ?_, ?_,by simp,by omega,by omega,by omega,by omega,by omega,by omega,fun b o e=>by have:=h.old1 b o e;omega,fun b o e=>by have:=h.old2 b o e;omega⟩
  · go_simp
  · go_simp
  · go_simp
  · refine ⟨?_,List.Pairwise.nil⟩;have:=World.ownsMap_made (w.alloc (.cells #[.pointer (some ⟨d.hb,0,none⟩)] t1)) Tryz.prog 3 (plainElem (H:=Unit) Tryz.prog 4);have:=(this.alloc (.cells #[.map (some (w.heap.size+1))] t2)).alloc (.cells #[.func (.func 138) #[] #[.pointer (some ⟨w.heap.size+1+1,0,none⟩),.pointer (some ⟨w.heap.size,0,none⟩),.pointer (some ⟨w.heap.size+1+1+1,0,none⟩)]] t3)
    simpa [mapOf] using this
end Mk
set_option maxRecDepth 100000 in
set_option maxHeartbeats 4000000 in
theorem live_any {w:World} {d:Hd} {S:Hp.Hs} {T:List Nat} (h:HAt w d S) (hr:S.live=some T) :
    Calls Tryz.prog 73 #[.pointer (some ⟨d.hb,0,none⟩)] w (LivePost w T):=by
  obtain ⟨R,hR,hT,hTR,hKids⟩:=Hp.Hs.live_spec hr;have H:=Lib.hid h;have HRH:=Lib.hid hR;have HT:=Lib.hid hT;have HTR:=Lib.hid hTR;have HKI:=Lib.hid hKids;clear h hr hR hT hTR hKids;have hmm:=@run_makeMap Tryz.prog;go_enter Tryz.func73,Tryz.ntmps73;go_upto_region 4 with (fail)
  refine Mk.cut (w:=w) (d:=d) (S:=S) (b1:=w.heap.size+1+1) (b2:=w.heap.size) (b3:=w.heap.size+1+1+1) (gl:=w.heap.size+1) (L:=[]) ?start ?_ (by simp) ?rest
  case start=>exact Mk.start H.out
  · exact exx
  intro w0 M0 E0 sz;have M:=Lib.hid M0;have k2:=M.out.k2;have c3:=M.out.c3;have ownd:=M.out.map.owns;have z1:=H.out.own_lt;clear M0
  go_wp2_with (at_range;refine wpList_range_own _ rfl _ 102 rfl 3 4 (int_keyed Tryz.underlying3) Tryz.underlying102 _ d.gm _ _ rfl ownd ?_;intro w1 hrg0 hg0 hs0;go_frame)
  have E1:Ext w0 w1:=⟨hg0.os,hg0.tape,hg0.output,hg0.size,fun k hk=>hg0.block k hk (by simp)⟩
  have M1:=Lib.hid (M.out.ext E1);have E01:=Lib.hid (E0.trans E1);have LI0:LiveInv S R [] (Maps.has (mapOf S.taken)):=⟨by simp,by simp,fun x hx hl=>by
   have h1:=((Hp.Hs.held_spec HRH.out) x).1 hx;rw [has_mapOf,hasLit_int] at hl;have:S.taken.contains x=true:=by simpa using h1.1
   rw [this] at hl
   cases hl⟩
  have RG:=Lib.hid hrg0;have sz1:w0.heap.size < w1.heap.size:=by omega
  clear hrg0 ownd c3 k2 M hg0 hs0 E1 z1 hmm E0;have sz2:w.heap.size+4 ≤ w0.heap.size:=by omega
  clear sz;generalize w0.heap.size=rr at RG sz1 sz2 ⊢
  go_loopg [5] (Maps.size (mapOf S.taken)) (fun g _ wr=>∃ (left:Lit → Bool) (cnt:Nat) (L:List Nat),cnt ≤ g ∧ Hid (wr.ranges Tryz.prog 3 (plainElem (H:=Unit) Tryz.prog 4) d.gm rr S.taken.length (mapOf S.taken) left cnt) ∧ Hid (Mk wr d S (w.heap.size+1+1) w.heap.size (w.heap.size+1+1+1) (w.heap.size+1) L) ∧ Hid (Ext w wr) ∧ Aside (LiveInv S R L left))
  case atStart=>exact ⟨_,_,[],Nat.le_refl _,RG,M1,E01,LI0⟩
  case round=>
   obtain ⟨left,cnt,L,hg,RR,MR,ER,LI⟩:=hrel;clear RG M1 E01;have k1:=MR.out.k1
   go_wp2_with (at_next;refine wpList_next_taken _ rfl _ rfl Tryz.underlying3 Tryz.underlying4 d.gm rr _ S.taken left cnt rfl RR.out ?_ ?_)
   · intro hl
     go_wp2_with fail
     go_returns;refine ⟨_,rfl,by omega, ?_,ER.out⟩;have:=LI.out.done hl MR.out.mm.sorted HT.out HTR.out;rw [← this];exact MR.out.mm
   · intro x c w' cnt' hx hrg' hlt hbut hen;have o0:=H.out.own_lt;have ne0:∀ b ∈ d.own,b ≠ rr:=fun b hb=>by have:=o0 b hb;omega
     have MN:=Lib.hid (MR.out.but hbut ne0 (by omega) (by omega) (by omega) (by omega) (fun b o e=>by have:=H.out.old1 b o e;omega) (fun b o e=>by have:=H.out.old2 b o e;omega));have EN:=Lib.hid (But.toExt ER.out hbut (by simp;omega));obtain ⟨v,hv⟩:=Hp.Hs.held_rd HRH.out x hx;have hvl:=rd_lt hv;have gv:=MN.out.words.get hv;have k2:=MN.out.k2;have k3:=MN.out.k3;have c2:=MN.out.c2;have sm:=MN.out.small;have hlen:=MN.out.le;have hcap:=MN.out.cap;have RN:=Lib.hid hrg';have HV:=Lib.hid hv;have HX:=Lib.hid hx;clear hrg' hbut o0 ne0 hv hx
     by_cases hp:v > 0
     · have hxR:x ∈ R:=(Hp.Hs.held_spec HRH.out x).2 ⟨HX.out,v,HV.out,hp⟩;have CALL:=Lib.hid (mark_any _ w' d S _ _ _ _ x L (Nat.le_refl _) MN.out (fun y hy=>HKI.out y (hy.mono fun z hz=>by
        have:z=x:=by simpa using hz
        subst this;exact .root hxR)))
       have HXR:=Lib.hid hxR;clear hxR
       go_wp2_with fail
       refine (Calls.mono CALL.out ?_);rintro e w2 ⟨rfl,L',M',B',MD⟩
       go_wp2_with fail
       go_roundg cnt'
       case measure=>omega
       case rel=>
        have q:=H.out.own_lt _ d.gm_own;refine ⟨_,cnt',L',Nat.le_refl _,Lib.hid (ranges_of RN.out (B'.block _ MN.out.map.lt (by simp;omega)) (B'.block _ RN.out.lt (by simp;omega))),Lib.hid M',Lib.hid (But.toExt EN.out B' (by simp)),(show Aside _ from ?_)⟩;refine ⟨fun y hy=>?_,fun y hy b hb=>?_,fun y hy hl=>?_⟩
        · rcases MD.reach y hy with h | h
          · exact LI.out.reach y h
          · exact h.mono fun z hz=>by
              have:z=x:=by simpa using hz
              subst this;exact .root HXR.out
        · rcases MD.closed y hy with h | h
          · exact MD.up b (LI.out.closed y h b hb)
          · exact h b hb
        · rcases left_false hl with h | rfl
          · exact MD.up y (LI.out.roots y hy h)
          · exact MD.self
     · go_wp2_with fail
       go_roundg cnt'
       case measure=>omega
       case rel=>
        refine ⟨_,cnt',L,Nat.le_refl _,RN,MN,EN,(show Aside _ from ⟨LI.out.reach,LI.out.closed,fun y hy hl=>?_⟩)⟩
        rcases left_false hl with h | rfl
        · exact LI.out.roots y hy h
        · obtain ⟨_,v',hv',hp'⟩:=(Hp.Hs.held_spec HRH.out y).1 hy;have e:=HV.out;rw [hv'] at e
          cases e
          omega
open Go.RowKit Go.Maps
theorem unlinkFrom_succ {T:List Nat} {n:Nat} {W W':List Int} {link:Nat} (h:Hp.Hs.unlinkFrom T n W link=some W'):∃ n' a,n=n'+1 ∧ Hp.ra W link=some a ∧
    ((a=0 ∧ W'=W) ∨ (a ≠ 0 ∧ T.contains a=true ∧ Hp.Hs.unlinkFrom T n' W (a+3)=some W') ∨ (a ≠ 0 ∧ T.contains a=false ∧ ∃ x W1,Hp.rd W (a+3)=some x ∧ Hp.wr W link x=some W1 ∧ Hp.Hs.unlinkFrom T n' W1 link=some W')):=by
  cases n with
  | zero=>simp [Hp.Hs.unlinkFrom] at h
  | succ n=>
   unfold Hp.Hs.unlinkFrom at h;simp only [Option.bind_eq_bind,Option.bind_eq_some_iff] at h;obtain ⟨a,ha,h⟩:=h;refine ⟨n,a,rfl,ha, ?_⟩
   split at h
   · rename_i h0;exact .inl ⟨h0,by simpa using h.symm⟩
   · rename_i h0
     split at h
     · rename_i hc;exact .inr (.inl ⟨h0,hc,h⟩)
     · rename_i hc;simp only [Option.bind_eq_some_iff] at h;obtain ⟨x,hx,W1,hW,h⟩:=h;exact .inr (.inr ⟨h0,by simpa using hc,x,W1,hx,hW,h⟩)
theorem unlinks_cons {T:List Nat} {n k:Nat} {W W':List Int} (hk:k < 16) (h:Hp.Hs.unlinks T n W ((List.range 16).drop k)=some W'):∃ W1,Hp.Hs.unlinkFrom T n W k=some W1 ∧ Hp.Hs.unlinks T n W1 ((List.range 16).drop (k+1))=some W':=by
 rw [List.drop_eq_getElem_cons (by simpa using hk)] at h
 simp only [Hp.Hs.unlinks,Option.bind_eq_bind,Option.bind_eq_some_iff,List.getElem_range] at h
 exact h
theorem unlink_len:∀ {n:Nat} {T:List Nat} {W W':List Int} {link:Nat},Hp.Hs.unlinkFrom T n W link=some W' → W'.length=W.length
 | 0,_,_,_,_,h=>by simp [Hp.Hs.unlinkFrom] at h
 | n+1,T,W,W',link,h=>by
  obtain ⟨n',a,hn,_,hq⟩:=unlinkFrom_succ h;obtain rfl:n=n':=by omega
  rcases hq with ⟨_,rfl⟩ | ⟨_,_,h1⟩ | ⟨_,_,x,W1,_,h1,h2⟩
  · rfl
  · exact unlink_len h1
  · rw [unlink_len h2,(HAt.wr_len h1).1]
set_option maxRecDepth 100000 in
set_option maxHeartbeats 8000000 in
theorem unlink_any {w:World} {d:Hd} {S S':Hp.Hs} {T:List Nat} {gl:Nat} (h:HAt w d S) (hl:MapAt Tryz.prog w gl T) (hg:gl ∉ d.own) (hr:S.unlink T=some S') :
    Calls Tryz.prog 160 #[.pointer (some ⟨d.hb,0,none⟩),.map (some gl)] w (Turned d w (.tuple #[]) S'):=by
  unfold Hp.Hs.unlink at hr;simp only [Option.bind_eq_bind,Option.bind_eq_some_iff,Option.pure_def,Option.some.injEq] at hr;obtain ⟨W',hW,rfl⟩:=hr;have sm:=h.small;have hle:=h.le;have hcap:=h.cap;have H:=Lib.hid (Now.refl h);have HU:=Lib.hid (show Hp.Hs.unlinks T S.fuel S.words ((List.range 16).drop 0)=some W' from hW);have HG:=Lib.hid hg;have ML:=Lib.hid hl;have apn:=h.apart1;have apn':=h.apart1.symm;clear h hl hg hW;generalize hn:S.words.length=n at sm hle;have EN:=Lib.hid hn;clear hn;go_enter Tryz.func160,Tryz.ntmps160
  go_wp2_with fail
  go_loopg [6] 16 (fun g i wr=>∃ (k:Nat) (W:List Int),k ≤ 16 ∧ 16-k ≤ g ∧ i = .int .i64 k ∧ Hid (Now w wr d { S with words:=W }) ∧ Hid (Hp.Hs.unlinks T S.fuel W ((List.range 16).drop k)=some W') ∧ Hid (W.length=n))
  case atStart=>exact ⟨0,S.words,by omega,by omega,rfl,H,HU,EN⟩
  case round=>
   obtain ⟨k,W,hk,hgk,rfl,N,U,EL⟩:=hrel;clear H HU
   by_cases hlt:k < 16
   · obtain ⟨W1,h1,h2⟩:=unlinks_cons hlt U.out;have U1:=Lib.hid h1;have U2:=Lib.hid h2;obtain ⟨fu,a,_,ha,_⟩:=unlinkFrom_succ h1;have A:=Lib.hid ha;have L1:=Lib.hid ((unlink_len h1).trans EL.out);have gcell:=N.out.words.get (ra_some ha);have lk:=rd_lt (ra_some ha);have c2:=N.out.len EL.out;rw [EL.out] at lk;clear h1 h2 ha U;have tk:decide ((k:Int) < 16)=true:=by simpa using (by omega:(k:Int) < 16)
     go_wp2_with fail
     clear tk
     go_loopg [4,5] S.fuel (fun g l s wx=>∃ (m link a:Nat) (V:List Int),m ≤ g ∧ l = .int .i64 link ∧ s = .int .i64 a ∧ link < n ∧ Hid (Now w wx d { S with words:=V }) ∧ Hid (Hp.ra V link=some a) ∧ Hid (Hp.Hs.unlinkFrom T m V link=some W1) ∧ Hid (V.length=n))
     case atStart=>exact ⟨S.fuel,k,a,W,Nat.le_refl _,rfl,rfl,lk,N,A,U1,EL⟩
     case round=>
      obtain ⟨m,link,b,V,hm,rfl,rfl,hll,NV,AV,UV,LV⟩:=hrel;clear N A U1 EL gcell c2;obtain ⟨n',b',hn',hb',hq⟩:=unlinkFrom_succ UV.out;have e:=AV.out;rw [hb'] at e
      cases e
      have HN:=Lib.hid hn';clear hn' hb'
      rcases hq with ⟨rfl,rfl⟩ | ⟨hb0,hct,hq⟩ | ⟨hb0,hct,x,V1,hx,hV,hq⟩
      · go_wp2_with fail
        go_roundg (16-(k+1))
        case measure=>omega
        case rel=>exact ⟨k+1,_,by omega,Nat.le_refl _,by go_num,NV,U2,LV⟩
      · have t0:((b:Int) != 0)=true:=by simpa using hb0
        obtain ⟨_,b2,_,hb2,_⟩:=unlinkFrom_succ hq;have g2:=NV.out.words.get (ra_some hb2);have l2:=rd_lt (ra_some hb2);rw [LV.out] at l2;have c2:=NV.out.len LV.out;have MX:=ML.out.but NV.out.but HG.out;have hlk:=MX.look (t:=102) Tryz.underlying3 Tryz.underlying4 Tryz.underlying102 (Tryz.zeroValue4 _) (x:=b) (by omega) (by omega);rw [hasLit_int,hct] at hlk;have B2:=Lib.hid hb2;have HQ:=Lib.hid hq;clear hb2 hq MX hct hb0
        go_wp2_with fail
        go_roundg n'
        case measure=>have:=HN.out;omega
        case rel=>exact ⟨n',b+3,b2,V,Nat.le_refl _,by go_num,rfl,l2,NV,B2,HQ,LV⟩
      · have t0:((b:Int) != 0)=true:=by simpa using hb0
        obtain ⟨_,b2,_,hb2,_⟩:=unlinkFrom_succ hq;have HBX:=NV.out.words.bound hx;have hbx1:=HBX.1;have hbx2:=HBX.2;have l3:=rd_lt hx;rw [LV.out] at l3;have c2:=NV.out.len LV.out;have MX:=ML.out.but NV.out.but HG.out;have hlk:=MX.look (t:=102) Tryz.underlying3 Tryz.underlying4 Tryz.underlying102 (Tryz.zeroValue4 _) (x:=b) (by omega) (by omega);rw [hasLit_int,hct] at hlk;have B2:=Lib.hid hb2;have HQ:=Lib.hid hq;have HX:=Lib.hid hx;have EV:=Lib.hid hV;have LV1:=Lib.hid ((HAt.wr_len hV).1.trans LV.out);clear hb2 hq MX hct hb0 HBX hx hV;go_upto_region 8 with (fail)
        clear hlk c2;refine wp_region_still_tail 13 (by kernel_rfl) (by kernel_rfl) ?_;change wpStill _ _ (World.drew wr) (fun a'=>wpList _ _ _ _ a' (World.drew wr)) _ _;have ED:Ext wr (World.drew wr):=Ext.drew (Ext.refl _);have ND:=Lib.hid (NV.out.ext ED);generalize World.drew wr=wd at ND ED ⊢;have c3:=ND.out.c3;have f2:=ND.out.f2;have z1:=ND.out.lt;have z2:=ND.out.words.lt;have c2':=ND.out.len LV.out;have g1:=ND.out.words.get HX.out;have g0:=ND.out.words.get (ra_some AV.out);have fr:=ND.out.words.froz link;obtain ⟨i1,i2,i3,i4⟩:IntKind.i64.wrap (((b:Nat):Int)+3)=((b:Nat):Int)+3 ∧ (0:Int) ≤ ((b:Nat):Int)+3 ∧ ((b:Nat):Int)+3 < ((n:Nat):Int) ∧ (((b:Nat):Int)+3).toNat=b+3:=⟨IntWalk.i64_in _ (by omega),by omega,by omega,by omega⟩
        simp only [List.take_succ_cons,List.take_zero,List.drop_succ_cons,List.drop_zero]
        repeat still_step
        refine wpStill_nil ?_;clear i1 i2 i3 i4 g1;have N1:=Lib.hid (ND.out.set EV.out hbx1 hbx2);go_upto_region 5 with (fail)
        refine Now.cut N1.out ?_;clear N1 ND g0 fr f2 c3 c2' z1 z2 ED;intro w5 N5;have N6:=Lib.hid N5;clear N5;have c2:=N6.out.len LV1.out;have g2:=N6.out.words.get (ra_some B2.out)
        go_wp2_with fail
        go_roundg n'
        case measure=>have:=HN.out;omega
        case rel=>exact ⟨n',link,b2,V1,Nat.le_refl _,rfl,rfl,hll,N6,B2,HQ,LV1⟩
   · have:k=16:=by omega
     subst this;have hu:=U.out;rw [show (List.range 16).drop 16=[] from rfl] at hu;obtain rfl:W=W':=by simpa [Hp.Hs.unlinks] using hu
     clear hu U
     go_wp2_with fail
     go_returns;exact N.out.done
theorem wpList_delete_taken {w:World} {ops:Array Oper} {rest:List Oper} {o:Oper} {a:Act} {Q:Exit → Act → World → Prop} (hg:o.guard=none) (m x:Operand)
    (hop:o.op=Op.call { callee:=Callee.builtin Builtin.delete,args:=#[m,x],argTypes:=#[102,3] }) {g k:Nat} {T:List Nat} (hm:a.eval m = .map (some g)) (hx:a.eval x = .int .i64 k) (h:MapAt Tryz.prog w g T) (hk:(k:Int) ≤ 9223372036854775807)
    (hK:∀ w',MapAt Tryz.prog w' g (T.erase k) → w.mapTurned w' g → wpList Tryz.prog ops Q rest (a.put o.dst (.tuple #[])) w'):wpList Tryz.prog ops Q (o :: rest) a w:=by
  refine wpList_plain hg fun K' hK'=>?_
  obtain ⟨w',hrun,r1,r2⟩:=h.del (t:=102) Tryz.underlying3 Tryz.underlying102 hk o.type;unfold Oper.wp;simp [execOp,hop,resolve,invoke,builtin,hm,hx,hrun,Result.andThen];exact hK' _ _ (hK w' r1 r2)
theorem seek_succ {W:List Int} {a n before link:Nat} {r:Nat × Nat} (h:Hp.Hs.seek W a n before link=some r):∃ n' next,n=n'+1 ∧ Hp.ra W link=some next ∧
    ((next ≠ 0 ∧ next < a ∧ Hp.Hs.seek W a n' next (next+2)=some r) ∨ (¬ (next ≠ 0 ∧ next < a) ∧ r=(before,link))):=by
  cases n with
  | zero=>simp [Hp.Hs.seek] at h
  | succ n=>
   unfold Hp.Hs.seek at h;simp only [Option.bind_eq_bind,Option.bind_eq_some_iff] at h;obtain ⟨next,hx,h⟩:=h;refine ⟨n,next,rfl,hx, ?_⟩
   split at h
   · rename_i hc;exact .inl ⟨hc.1,hc.2,h⟩
   · rename_i hc;exact .inr ⟨hc,by simpa using h.symm⟩
def freeTail (W:List Int) (a before link:Nat) (wide next:Int):Option (List Int):=do
 let joined ← (if before ≠ 0 then do some (decide (before+(← Hp.rc W (before+1))=a)) else some false:Option Bool)
 if joined then
  let w ← Hp.rc W (before+1)
  Hp.wr (← Hp.wr W (before+1) (w+wide)) (before+2) next
 else
  Hp.wr (← Hp.wr (← Hp.wr W (a+1) wide) (a+2) next) link a
theorem freeTail_some {W W':List Int} {a before link:Nat} {wide next:Int} (h:freeTail W a before link wide next=some W') :
    (before ≠ 0 ∧ ∃ v,Hp.rc W (before+1)=some v ∧ (before:Int)+v=a ∧ ∃ W1,Hp.wr W (before+1) (v+wide)=some W1 ∧ Hp.wr W1 (before+2) next=some W') ∨
    ((before=0 ∨ (before ≠ 0 ∧ ∃ v,Hp.rc W (before+1)=some v ∧ (before:Int)+v ≠ a)) ∧ ∃ W1 W2,Hp.wr W (a+1) wide=some W1 ∧ Hp.wr W1 (a+2) next=some W2 ∧ Hp.wr W2 link a=some W'):=by
  unfold freeTail at h;simp only [Option.bind_eq_bind,Option.bind_eq_some_iff] at h;obtain ⟨j,hj,h⟩:=h
  by_cases hb:before=0
  · rw [if_neg (by simp [hb])] at hj
    cases hj
    rw [if_neg (by simp)] at h;simp only [Option.bind_eq_some_iff] at h;obtain ⟨W1,h1,W2,h2,h3⟩:=h;exact .inr ⟨.inl hb,_,_,h1,h2,h3⟩
  · rw [if_pos hb] at hj;simp only [Option.bind_eq_some_iff,Option.some.injEq] at hj;obtain ⟨v,hv,rfl⟩:=hj
    by_cases hc:(before:Int)+v=a
    · rw [if_pos (decide_eq_true hc)] at h;simp only [Option.bind_eq_some_iff] at h;obtain ⟨v',hv',W1,h1,h2⟩:=h;rw [hv] at hv'
      cases hv'
      exact .inl ⟨hb,v,hv,hc,W1,h1,h2⟩
    · rw [if_neg (by simp [hc])] at h;simp only [Option.bind_eq_some_iff] at h;obtain ⟨W1,h1,W2,h2,h3⟩:=h;exact .inr ⟨.inr ⟨hb,v,hv,hc⟩,_,_,h1,h2,h3⟩
theorem free_some {S S':Hp.Hs} {a:Nat} (h:S.free a=some S'):∃ t k W before link next,S.tag a=some t ∧ Hp.wide S.sizes t=some k ∧ Hp.zero S.words a k=some W ∧ Hp.Hs.seek W a S.fuel 0 16=some (before,link) ∧ Hp.rd W link=some next ∧
    ∃ W',S' = { S with words:=W',taken:=S.taken.erase a } ∧ ((next=((a+k:Nat):Int) ∧ ∃ after v W1 W2,Hp.rd W (a+k+2)=some after ∧ Hp.rc W (a+k+1)=some v ∧ Hp.ck ((k:Int)+v)=some ((k:Int)+v) ∧ Hp.wr W (a+k+1) 0=some W1 ∧ Hp.wr W1 (a+k+2) 0=some W2 ∧ freeTail W2 a before link ((k:Int)+v) after=some W') ∨
     (next ≠ ((a+k:Nat):Int) ∧ freeTail W a before link (k:Int) next=some W')):=by
  unfold Hp.Hs.free at h;simp only [Option.bind_eq_bind,Option.bind_eq_some_iff] at h;obtain ⟨k,hk,W,hW,⟨before,link⟩,hs,next,hx,⟨wd,nx,W2⟩,hq,j,hj,h⟩:=h;obtain ⟨t,ht,hk⟩:=Option.bind_eq_some_iff.1 hk;refine ⟨t,k,W,before,link,next,ht,hk,hW,hs,hx, ?_⟩
  have key:∀ V (wd nx:Int) ,(∃ j,(if before ≠ 0 then (Hp.rc V (before+1)).bind fun v=>some (decide ((before:Int)+v=a)) else some false)=some j ∧
      (if j=true then (Hp.rc V (before+1)).bind fun v=>(Hp.wr V (before+1) (v+wd)).bind fun W1=>(Hp.wr W1 (before+2) nx).bind fun W3=>some ({ S with words:=W3,taken:=S.taken.erase a }:Hp.Hs) else
       (Hp.wr V (a+1) wd).bind fun W1=>(Hp.wr W1 (a+2) nx).bind fun W3=>(Hp.wr W3 link a).bind fun W4=>some ({ S with words:=W4,taken:=S.taken.erase a }:Hp.Hs))=some S') →
      ∃ W',S' = { S with words:=W',taken:=S.taken.erase a } ∧ freeTail V a before link wd nx=some W':=by
    rintro V wd nx ⟨j,hj,h⟩
    cases j with
    | true=>
     rw [if_pos rfl] at h;simp only [Option.bind_eq_some_iff,Option.some.injEq] at h;obtain ⟨v,hv,W1,h1,W3,h3,rfl⟩:=h;refine ⟨W3,rfl, ?_⟩;unfold freeTail;simp only [Option.bind_eq_bind];rw [hj];simp [hv,h1,h3]
    | false=>
     rw [if_neg (by simp)] at h;simp only [Option.bind_eq_some_iff,Option.some.injEq] at h;obtain ⟨W1,h1,W3,h3,W4,h4,rfl⟩:=h;refine ⟨W4,rfl, ?_⟩;unfold freeTail;simp only [Option.bind_eq_bind];rw [hj];simp [h1,h3,h4]
  by_cases hn:next=((a+k:Nat):Int)
  · rw [if_pos hn] at hq;simp only [Option.bind_eq_some_iff,Option.some.injEq,Prod.mk.injEq] at hq;obtain ⟨after,ha,v,hv,c,hc,V1,h1,V2,h2,rfl,rfl,rfl⟩:=hq;obtain ⟨rfl,_⟩:=ck_some hc;obtain ⟨W',e,hW'⟩:=key _ _ _ ⟨j,hj,h⟩;exact ⟨W',e,.inl ⟨hn,_,v,V1,_,ha,hv,hc,h1,h2,hW'⟩⟩
  · rw [if_neg hn] at hq;simp only [Option.some.injEq,Prod.mk.injEq] at hq;obtain ⟨rfl,rfl,rfl⟩:=hq;obtain ⟨W',e,hW'⟩:=key _ _ _ ⟨j,hj,h⟩;exact ⟨W',e,.inr ⟨hn,hW'⟩⟩
set_option maxRecDepth 100000 in
set_option maxHeartbeats 16000000 in
theorem free_any {w:World} {d:Hd} {S S':Hp.Hs} {a:Nat} (h:HAt w d S) (hr:S.free a=some S') :
    Calls Tryz.prog 161 #[.pointer (some ⟨d.hb,0,none⟩),.int .i64 a] w (Turned d w (.tuple #[]) S'):=by
  obtain ⟨t,k,W,before,link,next,ht,hk,hW,hs,hx,W',rfl,hq⟩:=free_some hr;have hwk:=wide_le h hk;have sm:=h.small;have hle:=h.le;have hcap:=h.cap;have apn:=h.apart1;have apn':=h.apart1.symm;have c0:=h.c0;have c1:=h.c1;have z1:=h.lt;have hz:=HAt.zero_len hW;generalize hn:S.words.length=n at sm hle hz;have EN:=Lib.hid hn;have EL:=Lib.hid hz.1;have hzl:=hz.2;have H:=Lib.hid (Now.refl h);have HTG:=Lib.hid ht;have HK:=Lib.hid hk;have HW:=Lib.hid hW;have HS:=Lib.hid hs;have HX:=Lib.hid hx;have HQ0:=Lib.hid hq;clear h hr ht hk hW hs hx hz hn hq;go_enter Tryz.func161,Tryz.ntmps161
  go_wp2_with fail
  have PR9:=Lib.hid (fun (ww:World) (hSw:Ext w ww)=>And.intro ((hSw.cell z1 0).trans c0) ((hSw.cell z1 1).trans c1));refine wp_region_seq (S:=fun W=>Ext w W) (R:=Ext) (by kernel_rfl) Ext.refl ?_ ?_
  · exact exx
  refine' tkL 0 rfl ?h0_133 ?_
  case h0_133=>(intro w q;obtain ⟨c0',c1'⟩:=PR9.out w q;go_simp;try with_reducible rfl)
  refine layy ?_;refine' tkL 1 rfl ?h1_134 ?_
  case h1_134=>(intro w q;obtain ⟨c0',c1'⟩:=PR9.out w q;go_simp;try with_reducible rfl)
  refine layy ?_;refine' tkL 2 rfl ?h2_135 ?_
  case h2_135=>(intro w q;obtain ⟨c0',c1'⟩:=PR9.out w q;go_simp;try with_reducible rfl)
  refine layy ?_;refine' tkL 3 rfl ?h3_136 ?_
  case h3_136=>(intro w q;obtain ⟨c0',c1'⟩:=PR9.out w q;go_simp;try with_reducible rfl)
  refine layy ?_;refine' tkL 4 rfl ?h4_137 ?_
  case h4_137=>(intro w q;obtain ⟨c0',c1'⟩:=PR9.out w q;go_simp;try with_reducible rfl)
  refine layy ?_;refine' tkL 5 rfl ?h5_138 ?_
  case h5_138=>(intro w q;obtain ⟨c0',c1'⟩:=PR9.out w q;go_simp;try with_reducible rfl)
  refine layy ?_;refine' tkR 6 (v:=.int .i64 t) rfl (Or.inr ⟨by rfl,76,_, ?hx6_139, ?hy6_139⟩) ?rest6_139
  case hx6_139=>(intro w hSw;go_simp;try with_reducible rfl)
  case hy6_139=>exact fun w hE=>(tag_any (H.out.toHAt.ext hE).c2 rfl H.out.le H.out.cap (H.out.toHAt.ext hE).words HTG.out).mono (fun _ _ h=>⟨h.1,h.2,Ext.trans hE h.2⟩)
  refine layy ?_;refine' tkR 7 (v:=.int .i64 k) rfl (Or.inr ⟨by rfl,123,_, ?hx7_140, ?hy7_140⟩) ?rest7_140
  case hx7_140=>(intro w hSw;go_simp;try with_reducible rfl)
  case hy7_140=>exact fun w hE=>(wide_any (H.out.toHAt.ext hE).sizes HK.out (by omega)).mono (fun _ _ h=>⟨h.1,h.2,Ext.trans hE h.2⟩)
  refine layy ?_;refine' tkL 8 rfl ?h8_141 ?_
  case h8_141=>(intro w q;obtain ⟨c0',c1'⟩:=PR9.out w q;go_simp;try with_reducible rfl)
  refine layy ?_;refine wpAnyR_done (by kernel_rfl) ?_ _;intro x1 _ Ex1;have N0:=Lib.hid (H.out.ext Ex1);have c3:=N0.out.c3;clear c0 c1 z1;go_upto_region 2 with (at_delete;refine wpList_delete_taken rfl _ _ rfl rfl rfl N0.out.map (by omega) ?_;intro w2 hm2 ht2;go_frame)
  have N2:=Lib.hid (N0.out.mapped ht2 hm2 (fun x hx=>N0.out.below x (List.mem_of_mem_erase hx)));clear hm2 ht2 c3 N0 Ex1;have c2:=N2.out.len EN.out;have hcl:=fun c ty=>run_clear_words N2.out.toHAt HW.out (by omega) c ty
  have N2c:=Lib.hid (N2.out.clear HW.out);go_upto_region 3 with (fail)
  refine Now.cut N2c.out ?_;intro w3 N3';have N3:=Lib.hid N3';clear N3' c2 hcl N2c N2;obtain ⟨_,x16,_,h16,_⟩:=seek_succ HS.out;have g16:=N3.out.words.get (ra_some h16);have l16:=rd_lt (ra_some h16);rw [EL.out] at l16;have c2:=N3.out.len EL.out;have X16:=Lib.hid h16;clear h16
  go_wp2_with fail
  clear c2 g16
  go_loopg [5,6,7] S.fuel (fun g b l s wr=>∃ m bf lk nx:Nat,wr=w3 ∧ m ≤ g ∧ b = .int .i64 bf ∧ l = .int .i64 lk ∧ s = .int .i64 nx ∧ lk < n ∧ Hid (Hp.ra W lk=some nx) ∧ Hid (Hp.Hs.seek W a m bf lk=some (before,link)))
  case atStart=>exact ⟨S.fuel,0,16,x16,rfl,Nat.le_refl _,rfl,rfl,rfl,l16,X16,HS⟩
  case round=>
   obtain ⟨m,bf,lk,nx,rfl,hm,rfl,rfl,rfl,hll,RA,SK⟩:=hrel;obtain ⟨n',nx',hn',hnx',hsk⟩:=seek_succ SK.out;have e:=RA.out;rw [hnx'] at e
   cases e
   have HN:=Lib.hid hn';clear hn' hnx'
   rcases hsk with ⟨h0,h1,h2⟩ | ⟨hne0,he⟩
   · have u0:((nx:Int) != 0)=true:=by simpa using h0
     have u1:decide (nx < a)=true:=decide_eq_true h1;obtain ⟨_,nx2,_,hnx2,_⟩:=seek_succ h2;have g2:=N3.out.words.get (ra_some hnx2);have l2:=rd_lt (ra_some hnx2);rw [EL.out] at l2;have c2:=N3.out.len EL.out;have X2:=Lib.hid hnx2;have SK2:=Lib.hid h2;clear h0 h1 h2 hnx2
     go_wp2_with fail
     go_roundg n'
     case measure=>have:=HN.out;omega
     case rel=>exact ⟨n',nx,nx+2,nx2,rfl,Nat.le_refl _,rfl,by go_num,rfl,l2,X2,SK2⟩
   · obtain ⟨rfl,rfl⟩:=by simpa using he
     obtain rfl:next=(nx:Int):=by
      have h1:=HX.out;rw [ra_some RA.out] at h1;exact (Option.some.inj h1).symm
     have hq:=HQ0.out;clear he HQ0;go_upto_region 5 with (fail)
     go_cut [45] (fun s45 W=>s45 = .bool false ∧ W=wr)
     case first=>
      by_cases hz0:nx=0
      · have u0:((nx:Int) != 0)=false:=by simpa using hz0
        clear hq
        go_wp2_with fail
        go_meet
        exact ⟨rfl,rfl⟩
      · have hge:a ≤ nx:=by
          apply Classical.byContradiction;intro hlt;exact hne0 ⟨hz0,by omega⟩
        have u0:((nx:Int) != 0)=true:=by simpa using hz0
        have u1:decide (nx < a)=false:=decide_eq_false (by omega);clear hq
        go_wp2_with fail
        go_meet
        exact ⟨rfl,rfl⟩
     case rest=>
     obtain ⟨rfl,hw⟩:=hcut;obtain rfl:=hw.symm;have c2:=N3.out.len EL.out;have gl:=N3.out.words.get (ra_some RA.out);have hnx:=N3.out.words.bound (ra_some RA.out);have hnx1:=hnx.1;have hnx2:=hnx.2;have HQ:=Lib.hid hq;have HNE:=Lib.hid hne0;clear hnx hq hne0
     go_upto_if 67 with (fail)
     clear gl c2
     go_cut [4,8] (fun s4 s8 w5=>∃ (K X:Int) (V:List Int),s4 = .int .i64 K ∧ s8 = .int .i64 X ∧ Hid (Now w w5 d { S with words:=V,taken:=S.taken.erase a }) ∧ Hid (V.length=n) ∧ Hid (freeTail V a before link K X=some W') ∧ (-4611686018427387904 < K ∧ K < 4611686018427387904) ∧ (-9223372036854775808 ≤ X ∧ X ≤ 9223372036854775807))
     case first=>
      rcases HQ.out with ⟨hne,after,v0,U1,U2,haf,hv0,hck,hU1,hU2,hft⟩ | ⟨hne,hft⟩
      · have e:a+k=nx:=by omega
        have u2:((nx:Int) == (a:Int)+(k:Int))=true:=by simpa using (by omega:(nx:Int)=(a:Int)+(k:Int))
        rw [e] at haf hv0 hU1 hU2;obtain ⟨hv0,hv1,hv2⟩:=rc_some hv0;obtain ⟨-,hw1,hw2⟩:=ck_some hck;have ha:=N3.out.words.bound haf;have ha1:=ha.1;have ha2:=ha.2;have g0:=N3.out.words.get hv0;have g4:=N3.out.words.get haf;have l3:=rd_lt hv0;rw [EL.out] at l3;have l4:=rd_lt haf;rw [EL.out] at l4;have EL5:=Lib.hid (((HAt.wr_len hU2).1.trans (HAt.wr_len hU1).1).trans EL.out);have HT:=Lib.hid hft;have HV0:=Lib.hid hv0;have HAF:=Lib.hid haf;have HU1:=Lib.hid hU1;have HU2:=Lib.hid hU2;clear hne e hft hv0 haf hU1 hU2 ha hck;have c2:=N3.out.len EL.out;go_upto_region 12 with (fail)
        clear u2 g0 g4 c2;have c2:=N3.out.len EL.out;have z1:=N3.out.lt;obtain ⟨i1,i2,i3,i4⟩:IntKind.i64.wrap (((nx:Nat):Int)+1)=((nx:Nat):Int)+1 ∧ (0:Int) ≤ ((nx:Nat):Int)+1 ∧ ((nx:Nat):Int)+1 < ((n:Nat):Int) ∧ (((nx:Nat):Int)+1).toNat=nx+1:=⟨IntWalk.i64_in _ (by omega),by omega,by omega,by omega⟩
        obtain ⟨j1,j2,j3,j4⟩:IntKind.i64.wrap (((nx:Nat):Int)+2)=((nx:Nat):Int)+2 ∧ (0:Int) ≤ ((nx:Nat):Int)+2 ∧ ((nx:Nat):Int)+2 < ((n:Nat):Int) ∧ (((nx:Nat):Int)+2).toNat=nx+2:=⟨IntWalk.i64_in _ (by omega),by omega,by omega,by omega⟩
        refine wp_region_any (by kernel_rfl) ?_;refine' tkA 10 rfl ?hy10_142 ?_
        case hy10_142=>(intro w;go_simp;try with_reducible rfl)
        refine layy ?_;refine' tkA 11 rfl ?hy11_143 ?_
        case hy11_143=>(intro w;go_simp;try with_reducible rfl)
        refine layy ?_;have PR10:=Lib.hid (fun (ww:World) (hSw:Ext wr ww)=>(hSw.cell z1 2).trans c2);refine wpAny_to_X (S:=fun W=>Ext wr W) (R:=Ext) 12 10 Ext.refl ?_ ?_ (by rfl)
        · exact Ext.drew exx
        refine' tkY 0 rfl ?h0_144 ?_
        case h0_144=>(intro w q;obtain c2':=PR10.out w q;go_simp;try with_reducible rfl)
        refine layy ?_;refine' tkY 1 rfl ?h1_145 ?_
        case h1_145=>(intro w q;obtain c2':=PR10.out w q;go_simp;try with_reducible rfl)
        refine layy ?_;refine' tkY 2 rfl ?h2_146 ?_
        case h2_146=>(intro w q;obtain c2':=PR10.out w q;go_simp;try with_reducible rfl)
        refine layy ?_;refine' tkY 3 rfl ?h3_147 ?_
        case h3_147=>(intro w q;obtain c2':=PR10.out w q;go_simp;try with_reducible rfl)
        refine layy ?_;refine' tkY 4 rfl ?h4_148 ?_
        case h4_148=>(intro w q;obtain c2':=PR10.out w q;go_simp;try with_reducible rfl)
        refine layy ?_;refine' tkY 5 rfl ?h5_149 ?_
        case h5_149=>(intro w q;obtain c2':=PR10.out w q;go_simp;try with_reducible rfl)
        refine layy ?_;refine' tkY 6 rfl ?h6_150 ?_
        case h6_150=>(intro w q;obtain c2':=PR10.out w q;go_simp;try with_reducible rfl)
        refine layy ?_;refine' tkY 7 rfl ?h7_151 ?_
        case h7_151=>(intro w q;obtain c2':=PR10.out w q;go_simp;try with_reducible rfl)
        refine layy ?_;refine' tkY 8 rfl ?h8_152 ?_
        case h8_152=>(intro w q;obtain c2':=PR10.out w q;go_simp;try with_reducible rfl)
        refine layy ?_;refine' tkY 9 rfl ?h9_153 ?_
        case h9_153=>(intro w q;obtain c2':=PR10.out w q;go_simp;try with_reducible rfl)
        refine layy ?_;refine wpAnyX_done (by kernel_rfl) ?_;intro wq _ Ewq;simp only [List.drop_succ_cons,List.drop_zero];clear c2 z1 i1 i2 i3 i4 j1 j2 j3 j4;have N4:=Lib.hid (N3.out.ext Ewq);have g1:=N4.out.words.get HV0.out;have g2:=N4.out.words.get HAF.out;have f1:=N4.out.words.froz (nx+1);have f2:=N4.out.words.froz (nx+2);have N5':=Lib.hid ((N4.out.set HU1.out (by omega) (by omega)).set HU2.out (by omega) (by omega));go_upto_region 13 with (fail)
        refine Now.cut N5'.out ?_;clear N5' N4 g1 g2 f1 f2 Ewq;intro w5 N5';have N5:=Lib.hid N5';clear N5'
        go_wp2_with fail
        go_meet
        exact ⟨_,_,_,rfl,rfl,N5,EL5,HT,⟨hw1,hw2⟩,ha1,ha2⟩
      · have u2:((nx:Int) == (a:Int)+(k:Int))=false:=by
          simpa using (fun e=>hne (by rw [e];simp):¬ (nx:Int)=(a:Int)+(k:Int))
        have HT:=Lib.hid hft;clear hne hft
        go_wp2_with fail
        go_meet
        exact ⟨_,_,_,rfl,rfl,N3,EL,HT,⟨by omega,by omega⟩,by omega,by omega⟩
     case rest=>
     obtain ⟨K,X,V,rfl,rfl,N5,EL5,HT,⟨hK1,hK2⟩,hX1,hX2⟩:=hcut;obtain ⟨w5,hw5⟩:∃ x,x=wc:=⟨_,rfl⟩
     subst hw5;clear HQ HNE hnx1 hnx2
     rcases freeTail_some HT.out with ⟨hb,v,hv,hc,V1,h1,h2⟩ | ⟨hb,V1,V2,h1,h2,h3⟩
     · have t0:((before:Int) != 0)=true:=by simpa using hb
       obtain ⟨hv,hv1,hv2⟩:=rc_some hv;have gv:=N5.out.words.get hv;have lv:=rd_lt hv;rw [EL5.out] at lv;have t1:((before:Int)+v == (a:Int))=true:=by simpa using hc
       have c2:=N5.out.len EL5.out;have fv:=N5.out.words.froz (before+1);have NY:=Lib.hid (N5.out.set h1 (by omega) (by omega));have EL1:=Lib.hid ((HAt.wr_len h1).1.trans EL5.out);have H2:=Lib.hid h2;have l2:=(HAt.wr_len h2).2;rw [EL1.out] at l2;clear hb hv hc h1 h2;go_upto_region 16 with (fail)
       refine Now.cut NY.out ?_;clear NY gv fv c2;intro wy NY';have NY:=Lib.hid NY';clear NY';have c2:=NY.out.len EL1.out;obtain ⟨y3,hy3⟩:=rd_get (HAt.wr_len H2.out).2;have g3:=NY.out.words.get hy3;have f3:=NY.out.words.froz (before+2);have Y3:=Lib.hid hy3;clear hy3
       go_wp2_with fail
       go_returns;exact (NY.out.set H2.out hX1 hX2).done
     · have c2:=N5.out.len EL5.out;go_upto_region 14 with (fail)
       go_cut [116] (fun s116 W=>s116 = .bool false ∧ W=w5)
       case first=>
        rcases hb with hb | ⟨hb,v,hv,hc⟩
        · have t0:((before:Int) != 0)=false:=by simpa using hb
          clear hb h1 h2 h3
          go_wp2_with fail
          go_meet
          exact ⟨rfl,rfl⟩
        · have t0:((before:Int) != 0)=true:=by simpa using hb
          obtain ⟨hv,hv1,hv2⟩:=rc_some hv;have gv:=N5.out.words.get hv;have lv:=rd_lt hv;rw [EL5.out] at lv;have t1:((before:Int)+v == (a:Int))=false:=by simpa using hc
          clear hb hv hc h1 h2 h3
          go_wp2_with fail
          go_meet
          exact ⟨rfl,rfl⟩
       case rest=>
        obtain ⟨rfl,hw⟩:=hcut;obtain rfl:=hw.symm;clear hb;have e1:=HAt.wr_len h1;have e2:=HAt.wr_len h2;have e3:=HAt.wr_len h3;have l1:=e1.2;rw [EL5.out] at l1;have l2:=e2.2;rw [e1.1,EL5.out] at l2;obtain ⟨y1,hy1⟩:=rd_get (l:=V) (j:=a+1) (by rw [EL5.out];exact l1);obtain ⟨y2,hy2⟩:=rd_get (l:=V) (j:=a+2) (by rw [EL5.out];exact l2);have EL2:=Lib.hid (e2.1.trans (e1.1.trans EL5.out));have Y1:=Lib.hid hy1;have Y2:=Lib.hid hy2;have H1:=Lib.hid h1;have H2:=Lib.hid h2;have H3:=Lib.hid h3;clear e1 e2 e3 hy1 hy2 h1 h2 h3;go_upto_region 17 with (fail)
        (try clear c2)
        have c2:=N5.out.len EL5.out;have z1:=N5.out.lt;obtain ⟨i1,i2,i3,i4⟩:IntKind.i64.wrap (((a:Nat):Int)+1)=((a:Nat):Int)+1 ∧ (0:Int) ≤ ((a:Nat):Int)+1 ∧ ((a:Nat):Int)+1 < ((n:Nat):Int) ∧ (((a:Nat):Int)+1).toNat=a+1:=⟨IntWalk.i64_in _ (by omega),by omega,by omega,by omega⟩
        obtain ⟨j1,j2,j3,j4⟩:IntKind.i64.wrap (((a:Nat):Int)+2)=((a:Nat):Int)+2 ∧ (0:Int) ≤ ((a:Nat):Int)+2 ∧ ((a:Nat):Int)+2 < ((n:Nat):Int) ∧ (((a:Nat):Int)+2).toNat=a+2:=⟨IntWalk.i64_in _ (by omega),by omega,by omega,by omega⟩
        refine wp_region_any (by kernel_rfl) ?_;refine' tkA 10 rfl ?hy10_154 ?_
        case hy10_154=>(intro w;go_simp;try with_reducible rfl)
        refine layy ?_;refine' tkA 11 rfl ?hy11_155 ?_
        case hy11_155=>(intro w;go_simp;try with_reducible rfl)
        refine layy ?_;refine' tkA 13 rfl ?hy13_156 ?_
        case hy13_156=>(intro w;go_simp;try with_reducible rfl)
        refine layy ?_;have PR11:=Lib.hid (fun (ww:World) (hSw:Ext w5 ww)=>(hSw.cell z1 2).trans c2);refine wpAny_to_X (S:=fun W=>Ext w5 W) (R:=Ext) 14 11 Ext.refl ?_ ?_ (by rfl)
        · exact Ext.drew exx
        refine' tkY 0 rfl ?h0_157 ?_
        case h0_157=>(intro w q;obtain c2':=PR11.out w q;go_simp;try with_reducible rfl)
        refine layy ?_;refine' tkY 1 rfl ?h1_158 ?_
        case h1_158=>(intro w q;obtain c2':=PR11.out w q;go_simp;try with_reducible rfl)
        refine layy ?_;refine' tkY 2 rfl ?h2_159 ?_
        case h2_159=>(intro w q;obtain c2':=PR11.out w q;go_simp;try with_reducible rfl)
        refine layy ?_;refine' tkY 3 rfl ?h3_160 ?_
        case h3_160=>(intro w q;obtain c2':=PR11.out w q;go_simp;try with_reducible rfl)
        refine layy ?_;refine' tkY 4 rfl ?h4_161 ?_
        case h4_161=>(intro w q;obtain c2':=PR11.out w q;go_simp;try with_reducible rfl)
        refine layy ?_;refine' tkY 5 rfl ?h5_162 ?_
        case h5_162=>(intro w q;obtain c2':=PR11.out w q;go_simp;try with_reducible rfl)
        refine layy ?_;refine' tkY 6 rfl ?h6_163 ?_
        case h6_163=>(intro w q;obtain c2':=PR11.out w q;go_simp;try with_reducible rfl)
        refine layy ?_;refine' tkY 7 rfl ?h7_164 ?_
        case h7_164=>(intro w q;obtain c2':=PR11.out w q;go_simp;try with_reducible rfl)
        refine layy ?_;refine' tkY 8 rfl ?h8_165 ?_
        case h8_165=>(intro w q;obtain c2':=PR11.out w q;go_simp;try with_reducible rfl)
        refine layy ?_;refine' tkY 9 rfl ?h9_166 ?_
        case h9_166=>(intro w q;obtain c2':=PR11.out w q;go_simp;try with_reducible rfl)
        refine layy ?_;refine' tkY 12 rfl ?h12_167 ?_
        case h12_167=>(intro w q;obtain c2':=PR11.out w q;go_simp;try with_reducible rfl)
        refine layy ?_;refine wpAnyX_done (by kernel_rfl) ?_;intro wz _ Ewz;simp only [List.drop_succ_cons,List.drop_zero];clear c2 z1 i1 i2 i3 i4 j1 j2 j3 j4;have NZ:=Lib.hid (N5.out.ext Ewz);have g1:=NZ.out.words.get Y1.out;have g2:=NZ.out.words.get Y2.out;have f1:=NZ.out.words.froz (a+1);have f2:=NZ.out.words.froz (a+2);have NY:=Lib.hid ((NZ.out.set H1.out (by omega) (by omega)).set H2.out hX1 hX2);go_upto_region 18 with (fail)
        refine Now.cut NY.out ?_;clear NY NZ g1 g2 f1 f2 Ewz;intro wy NY';have NY:=Lib.hid NY';clear NY';have c2:=NY.out.len EL2.out;obtain ⟨y3,hy3⟩:=rd_get (HAt.wr_len H3.out).2;have g3:=NY.out.words.get hy3;have f3:=NY.out.words.froz link;have Y3:=Lib.hid hy3;clear hy3
        go_wp2_with fail
        go_returns;exact (NY.out.set H3.out (by omega) (by omega)).done
end Go.Proofs.YtdokmmhjmclmnaaGreat
