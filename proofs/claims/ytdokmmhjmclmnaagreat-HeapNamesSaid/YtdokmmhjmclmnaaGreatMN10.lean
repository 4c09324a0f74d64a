/-
  Part 10 of a proof: HRange HFn29 HFn30 HFn31 HPlayM HFn35 HFn36.
-/
import Derived.OwnWalkIn
import Derived.RangeFuncBound
import Derived.RangeFuncCalls
import Derived.RangeFuncLeaves
import Derived.RangeFuncNested
import Derived.Shelf.RegionOpen
import Derived.TacticsInMore
import Derived.Test.YtdokmmhjmclmnaaGreatMN01
import Derived.Test.YtdokmmhjmclmnaaGreatMN02
import Derived.Test.YtdokmmhjmclmnaaGreatMN06
import Derived.Test.YtdokmmhjmclmnaaGreatMN08
import Derived.Test.YtdokmmhjmclmnaaGreatMN09
set_option linter.unusedSimpArgs false
set_option linter.unusedVariables false
set_option linter.unusedSectionVars false
set_option linter.unnecessarySimpa false
namespace Go.Proofs.YtdokmmhjmclmnaaGreat
open Go.RowKit
def Gives {α:Type} (F:Fence) (n:Nat) (P:Program) (g:Nat) (first:Array Value) (encs:α → Array Value) (K:World → Prop) (L:List α):Prop:=
 ∀ (l:Nat) (J:List α → World → Prop) (W:World),(∀ pre W1,J pre W1 → K W1) → (∀ pre W1 W2,J pre W1 → Ext W1 W2 → J pre W2) →
  (∀ pre x r W1,L=pre ++ x :: r → J pre W1 → YieldAt F (n-1) P l (encs x) W1 fun e W'=>e = .returned (.bool true) ∧ J (pre ++ [x]) W') → J [] W →
  CallsIn F n P g (first ++ #[.func (.yield l) #[] #[]]) W fun e W'=>(∃ v,e = .returned v) ∧ J L W'
structure Rest (B:Nat) (W W':World):Prop where
 size:W.heap.size ≤ W'.heap.size
 same:∀ k,B ≤ k → k < W.heap.size → W'.heap[k]? = W.heap[k]?
theorem Rest.refl (B:Nat) (W:World):Rest B W W:=⟨Nat.le_refl _,fun _ _ _=>rfl⟩
theorem Rest.trans {B:Nat} {a b c:World} (h:Rest B a b) (k:Rest B b c):Rest B a c:=
 ⟨Nat.le_trans h.size k.size,fun i hi hl=>(k.same i hi (Nat.lt_of_lt_of_le hl h.size)).trans (h.same i hi hl)⟩
theorem Rest.ext {B:Nat} {a b c:World} (h:Rest B a b) (k:Ext b c):Rest B a c:=h.trans ⟨k.le,fun i _ hl=>k.block i hl⟩
theorem Rest.setCell {B:Nat} {a b:World} (h:Rest B a b) {p:Addr} (hp:p.block < B) (v:Value):Rest B a (b.setCell p v):=
 ⟨by simpa [World.setCell] using h.size,fun k hk hl=>by rw [Below.heap_setCell _ _ _ _ (by omega)];exact h.same k hk hl⟩
theorem below_putObj {B:Nat} {W:World} {b:Nat} (o:Obj) (hb:B ≤ b):Below B W (W.putObj b o):=
 ⟨rfl,rfl,rfl,by simp,fun k hk=>World.putObj_heap_other (by omega)⟩
variable {F:Fence} {n:Nat} {P:Program}
theorem wpIn_bound {α:Type} {g:Operand} {ps:Array Tmp} {assign body:Code} {Q:Exit → Act → World → Prop} {a:Act} {w:World}
    (hro:F.round=none) (h1:1 ≤ n) {gf:Nat} {first:Array Value} (hg:a.eval g = .func (.func gf) first #[]) (hFg:F.fn gf) (eg:∀ args w,(callFunc gf args).run P w = .ok (.enter gf args) w)
    {encs:α → Array Value} {K:World → Prop} {L:List α} (hseq:Gives F (n-1) P gf first encs K L) (hps:∀ x,(encs x).size=ps.size)
    (I:List α → World → Prop) (hI:∀ pre W W',I pre W → w.heap.size ≤ W.heap.size → Below w.heap.size W W' → I pre W') (hK:∀ pre W,I pre W → K W) (h0:I [] w) (a₁:α → Act)
    (hassign:∀ (l:Nat) (x:α) (W:World) (G:Act → World → Prop),G (a₁ x) W →
     assign.wpIn (F.inRound l) (n-1-1) P (Exit.then G (fun _ _ _=>False)) { tmps:=(ps.zip (encs x)).foldl (fun t (p,v)=>t.setIfInBounds p v) a.tmps,defers:=[] } W)
    (hbody:∀ (l:Nat) (pre:List α) (x:α) (r:List α) (W:World),L=pre ++ x :: r → I pre W → w.heap.size ≤ W.heap.size →
     body.wpIn (F.inRound l) (n-1-1) P (fun e _ W'=>e = .normal ∧ Rest w.heap.size W W' ∧ I (pre ++ [x]) W') (a₁ x) W)
    (hdone:∀ (W:World),I L W → w.heap.size ≤ W.heap.size → W.heap[w.heap.size]? = some (.deferred (some [])) → Q .normal { a with defers:={ target:=.collected w.heap.size,args:=#[] } :: a.defers } W) :
    (Code.rangeFunc g ps assign body).wpIn F n P Q a w:=by
  refine wpIn_rangeFunc fun fn hfn=>?_
  rw [hro];obtain ⟨rec,hrec⟩:∃ rec:LoopState → Option Code → Loop,rec=fun st pe=>{ state:=st,pending:=pe,fn,tmps:=a.tmps,params:=ps,assign,body,defers:=w.heap.size }:=⟨_,rfl⟩
  obtain ⟨W1,hW1⟩:∃ W1,(w.alloc (.deferred (some []))).alloc (.loop (rec .ready none))=W1:=⟨_,rfl⟩
  have hE1:Below w.heap.size w W1:=by
   rw [← hW1];exact ((Below.refl _ w).alloc (Nat.le_refl _) _).alloc (by simp) _
  have hz1:W1.heap.size=w.heap.size+2:=by rw [← hW1];simp
  have hL1:W1.heap[w.heap.size+1]? = some (.loop (rec .ready none)):=by
   rw [← hW1];have:=World.alloc_heap_new (w.alloc (.deferred (some []))) (.loop (rec .ready none))
   rwa [World.size_alloc] at this
  have hK1:W1.heap[w.heap.size]? = some (.deferred (some [])):=by
   rw [← hW1];exact (Below.heap_alloc _ _ _ (by simp)).trans (World.alloc_heap_new w _)
  refine ⟨w.heap.size+1,[{ target:=.collected w.heap.size,args:=#[] }],W1,{ target:=.fn (.func gf) #[],args:=first ++ #[.func (.yield (w.heap.size+1)) #[] #[]] },W1,gf,
   first ++ #[.func (.yield (w.heap.size+1)) #[] #[]],W1, ?_, ?_, ?_, ?_,fun _=>h1, ?_⟩
  · rw [← hW1,hrec];exact run_enterLoop_outer _ _ _ _ _
  · simp only [resolve,hg];simp [go_sem]
  · intro f' hf';simp [Target.leads] at hf';subst hf';exact hFg
  · simp [invoke,go_sem,eg]
  · refine (hseq (w.heap.size+1)
      (fun pre W=>I pre W ∧ w.heap.size+2 ≤ W.heap.size ∧ W.heap[w.heap.size+1]? = some (.loop (rec .ready none)) ∧ W.heap[w.heap.size]? = some (.deferred (some []))) W1
      (fun pre W h=>hK pre W h.1)
      (fun pre A B h k=>⟨hI pre A B h.1 (by omega) (Below.mono k (by omega)),Nat.le_trans h.2.1 k.le,(k.block _ (by omega)).trans h.2.2.1,(k.block _ (by omega)).trans h.2.2.2⟩)
      ?_ ⟨hI _ _ _ h0 (Nat.le_refl _) hE1,by omega,hL1,hK1⟩).mono ?_
    · rintro pre x r W hLx ⟨hi,hsz,hl,hk⟩;have hy:=run_yield (P:=P) (args:=encs x) hl (by rw [hrec];exact hps x);rw [hrec] at hy;refine ⟨fn,_,assign,body,hy,roundIn_of_wpIn hfn (hassign _ x W _ ⟨_,run_beginRound hl (by rw [hrec]), ?_⟩)⟩;have hl2:(W.putObj (w.heap.size+1) (.loop { rec .ready none with state:=.busy })).heap[w.heap.size+1]? = some (.loop { rec .ready none with state:=.busy }):=World.putObj_heap_same (by omega);have hk2:(W.putObj (w.heap.size+1) (.loop { rec .ready none with state:=.busy })).heap[w.heap.size]? = some (.deferred (some [])):=(World.putObj_heap_other (by omega)).trans hk;refine wpIn_mono (hbody _ pre x r _ hLx (hI _ _ _ hi (by omega) (below_putObj _ (by omega))) (by simp;omega)) ?_;rintro e a3 W3 ⟨rfl,hr3,hi3⟩;have hs3:=hr3.size;simp only [World.putObj_size] at hs3;have hl3:=(hr3.same (w.heap.size+1) (by omega) (by simp;omega)).trans hl2;have hk3:=(hr3.same w.heap.size (by omega) (by simp;omega)).trans hk2;have hend:=run_endRound (P:=P) none hl3;simp only [Option.isNone_none,if_true] at hend;refine ⟨_,_,hend,rfl,hI _ _ _ hi3 (by omega) (below_putObj (b:=w.heap.size+1) _ (by omega)), ?_, ?_, ?_⟩
      · simp only [World.putObj_size];omega
      · have:=World.putObj_heap_same (w:=W3) (r:=w.heap.size+1) (o:=.loop (rec .ready none)) (by omega);rw [hrec] at this ⊢;exact this
      · exact (World.putObj_heap_other (w:=W3) (r:=w.heap.size+1) (k:=w.heap.size) (by omega)).trans hk3
    · rintro e W2 ⟨⟨v,rfl⟩,hi,hsz,hl,hk⟩;have hend:=run_endLoop (P:=P) hl (by rw [hrec];simp);rw [hrec] at hend;exact ⟨none,_,hend,hdone _ (hI _ _ _ hi (by omega) (below_putObj _ (by omega))) (by simp;omega) ((World.putObj_heap_other (by omega)).trans hk)⟩
def Hp.Hs.piecesFrom (S:Hp.Hs):Nat → Nat → Option (List (Nat × Nat))
 | 0,_=>none
 | n+1,a=>do
  if S.words.length ≤ a then some [] else
  let w0 ← Hp.rd S.words (a+1)
  let t ← S.tag a
  let k ← (if t=0 then Hp.adr w0 else Hp.wide S.sizes t:Option Nat)
  if 1000000 < k then none else
  let r ← S.piecesFrom n (a+k)
  some ((a,k) :: r)
theorem piecesFrom_succ {S:Hp.Hs} {n a:Nat} {L:List (Nat × Nat)} (h:S.piecesFrom n a=some L) :
    (S.words.length ≤ a ∧ L=[]) ∨ (a < S.words.length ∧ ∃ n' x t k r,n=n'+1 ∧ Hp.rd S.words (a+1)=some x ∧ S.tag a=some t ∧ ((t ≠ 0 ∧ Hp.wide S.sizes t=some k) ∨ (t=0 ∧ x=(k:Int))) ∧ k ≤ 1000000 ∧ L=(a,k) :: r ∧ S.piecesFrom n' (a+k)=some r):=by
  cases n with
  | zero=>simp [Hp.Hs.piecesFrom] at h
  | succ n=>
   unfold Hp.Hs.piecesFrom at h
   split at h
   · rename_i hge;exact .inl ⟨hge,by simpa using h.symm⟩
   · rename_i hlt;simp only [Option.bind_eq_bind,Option.bind_eq_some_iff] at h;obtain ⟨x,hx,t,ht,k,hk,h⟩:=h
     split at h
     · cases h
     · rename_i hkl;simp only [Option.bind_eq_some_iff,Option.some.injEq] at h;obtain ⟨r,hr,rfl⟩:=h;refine .inr ⟨by omega,n,x,t,k,r,rfl,hx,ht, ?_,by omega,rfl,hr⟩
       split at hk
       · rename_i h0;exact .inr ⟨h0,adr_some hk⟩
       · rename_i h0;exact .inl ⟨h0,hk⟩
theorem pieces_len {S:Hp.Hs}:∀ {n a:Nat} {L:List (Nat × Nat)},S.piecesFrom n a=some L → L.length ≤ n
 | 0,a,L,h=>by simp [Hp.Hs.piecesFrom] at h
 | n+1,a,L,h=>by
  rcases piecesFrom_succ h with ⟨_,rfl⟩ | ⟨_,n',x,t,k,r,hn,_,_,_,_,rfl,hr⟩
  · simp
  · obtain rfl:n=n':=by omega
    have:=pieces_len hr;simp;omega
theorem take_snocC {α:Type} {L r:List α} {j:Nat} {x:α} (h:L.drop j=x :: r):L.take (j+1)=L.take j ++ [x]:=by
 have hl:j < L.length:=by
  have:=congrArg List.length h;simp at this;omega
 rw [List.take_succ_eq_append_getElem hl]
 rw [List.drop_eq_getElem_cons hl] at h
 rw [(List.cons.inj h).1]
theorem drop_snocC {α:Type} {L r:List α} {j:Nat} {x:α} (h:L.drop j=x :: r):L.drop (j+1)=r:=by
 rw [← List.drop_drop,h]
 rfl
def encC (x:Nat × Nat):Array Value:=#[.int .i64 (x.1:Int),.int .i64 (x.2:Int)]
set_option maxRecDepth 100000 in
set_option maxHeartbeats 8000000 in
theorem cells_gives {d:Hd} {S:Hp.Hs} {L:List (Nat × Nat)} (hr:S.piecesFrom S.fuel 17=some L) :
    Gives Fence.wide 4 Tryz.prog 75 #[.pointer (some ⟨d.hb,0,none⟩)] encC (fun W=>HAt W d S) L:=by
  intro l J W hK hE hY h0;refine callsIn_wide.2 ?_;have H:=Lib.hid (hK _ _ h0);have KK:=Lib.hid hK;have EE:=Lib.hid hE;have YY:=Lib.hid hY;have J0:=Lib.hid h0;have HR:=Lib.hid (show S.piecesFrom S.fuel 17=some (L.drop 0) from hr);have sm:=H.out.small;obtain ⟨n,hn⟩:∃ n,S.words.length=n:=⟨_,rfl⟩
  have EN:=Lib.hid hn;rw [hn] at sm;clear hK hE hY h0 hr hn;show Calls Tryz.prog 75 #[.pointer (some ⟨d.hb,0,none⟩),.func (.yield l) #[] #[]] W _;go_enter Tryz.func75,Tryz.ntmps75
  go_wp2_with fail
  go_loopg [4] (L.length+1) (fun g i wr=>∃ (j a m:Nat),j ≤ L.length ∧ L.length-j+1 ≤ g ∧ i = .int .i64 a ∧ a ≤ 2000000 ∧ Hid (J (L.take j) wr) ∧ Hid (S.piecesFrom m a=some (L.drop j)))
  case atStart=>exact ⟨0,17,S.fuel,by omega,by omega,rfl,by omega,J0,HR⟩
  case round=>
   obtain ⟨j,a,m,hj,hg,rfl,ha,JJ,HC⟩:=hrel;clear J0 HR H;have H:=Lib.hid (KK.out _ _ JJ.out);have c2:=H.out.c2;rw [EN.out] at c2;have hle:=H.out.le;have hcap:=H.out.cap;rw [EN.out] at hle
   rcases piecesFrom_succ HC.out with ⟨hge,hnil⟩ | ⟨hlt,m',y,t,k,r,-,hy,ht,hk,hkl,hcons,hrest⟩
   · rw [EN.out] at hge;have hjl:L.take j=L:=List.take_of_length_le (by simpa using hnil);have JL:=Lib.hid (hjl ▸ JJ.out)
     go_wp2_with fail
     go_returns;exact ⟨⟨_,rfl⟩,JL.out⟩
   · rw [EN.out] at hlt;have hyl:=rd_lt hy;rw [EN.out] at hyl;have gy:=H.out.words.get hy;have HT:=Lib.hid ht;have HCONS:=Lib.hid hcons;have HREST:=Lib.hid hrest;have c0:=H.out.c0;have c1:=H.out.c1;have z1:=H.out.lt;have hjl:j < L.length:=by
      have:=congrArg List.length hcons;simp at this;omega
     have tk:decide ((a:Int) < (n:Int))=true:=by simpa using (by omega:(a:Int) < (n:Int))
     clear hy ht hcons hrest HC
     rcases hk with ⟨h0,hk⟩ | ⟨rfl,rfl⟩
     · have HK:=Lib.hid hk;have t0:(t != 0)=true:=by simpa using h0
       clear hk h0;go_upto_region 4 with (go_at_call 76;refine (tag_any H.out.c2 rfl H.out.le H.out.cap H.out.words HT.out).mono ?_;rintro e w1 ⟨rfl,hb1⟩;obtain ⟨hc1,hf1,hs1⟩:=hb1.cells)
       clear c2 gy tk;have H1:=Lib.hid (H.out.ext hb1);have J1:=Lib.hid (EE.out _ _ _ JJ.out hb1);have c0:=H1.out.c0;have c1:=H1.out.c1;have z1:=H1.out.lt;have PR15:=Lib.hid (fun (ww:World) (hSw:Ext w1 ww)=>And.intro ((hSw.cell z1 0).trans c0) ((hSw.cell z1 1).trans c1));refine wp_region_seq (S:=fun W=>Ext w1 W) (R:=Ext) (by kernel_rfl) Ext.refl ?_ ?_
       · exact exx
       refine' tkL 0 rfl ?h0_197 ?_
       case h0_197=>(intro w q;obtain ⟨c0',c1'⟩:=PR15.out w q;go_simp;try with_reducible rfl)
       refine layy ?_;refine' tkL 1 rfl ?h1_198 ?_
       case h1_198=>(intro w q;obtain ⟨c0',c1'⟩:=PR15.out w q;go_simp;try with_reducible rfl)
       refine layy ?_;refine' tkL 2 rfl ?h2_199 ?_
       case h2_199=>(intro w q;obtain ⟨c0',c1'⟩:=PR15.out w q;go_simp;try with_reducible rfl)
       refine layy ?_;refine' tkL 3 rfl ?h3_200 ?_
       case h3_200=>(intro w q;obtain ⟨c0',c1'⟩:=PR15.out w q;go_simp;try with_reducible rfl)
       refine layy ?_;refine' tkL 4 rfl ?h4_201 ?_
       case h4_201=>(intro w q;obtain ⟨c0',c1'⟩:=PR15.out w q;go_simp;try with_reducible rfl)
       refine layy ?_;refine' tkL 5 rfl ?h5_202 ?_
       case h5_202=>(intro w q;obtain ⟨c0',c1'⟩:=PR15.out w q;go_simp;try with_reducible rfl)
       refine layy ?_;refine' tkR 6 (v:=.int .i64 t) rfl (Or.inr ⟨by rfl,76,_, ?hx6_203, ?hy6_203⟩) ?rest6_203
       case hx6_203=>(intro w hSw;go_simp;try with_reducible rfl)
       case hy6_203=>exact fun w hE=>(tag_any (H1.out.ext hE).c2 rfl H1.out.le H1.out.cap (H1.out.ext hE).words HT.out).mono (fun _ _ h=>⟨h.1,h.2,Ext.trans hE h.2⟩)
       refine layy ?_;refine' tkR 7 (v:=.int .i64 k) rfl (Or.inr ⟨by rfl,123,_, ?hx7_204, ?hy7_204⟩) ?rest7_204
       case hx7_204=>(intro w hSw;go_simp;try with_reducible rfl)
       case hy7_204=>exact fun w hE=>(wide_any (H1.out.ext hE).sizes HK.out (by omega)).mono (fun _ _ h=>⟨h.1,h.2,Ext.trans hE h.2⟩)
       refine layy ?_;refine' tkL 8 rfl ?h8_205 ?_
       case h8_205=>(intro w q;obtain ⟨c0',c1'⟩:=PR15.out w q;go_simp;try with_reducible rfl)
       refine layy ?_;refine wpAnyR_done (by kernel_rfl) ?_ _;intro x1 _ Ex1;have J2:=Lib.hid (EE.out _ _ _ J1.out Ex1);obtain ⟨fn,tmps,assign,body,hy,hR⟩:=YY.out (L.take j) (a,k) r x1 (by rw [← HCONS.out,List.take_append_drop]) J2.out;dsimp only [encC] at hy;go_upto_region 5 with (fail)
       refine (wpIn_wide (n:=4)).1 ?_
       gi_wp2
       refine hR.mono ?_;rintro e w3 ⟨rfl,J3⟩
       gi_wp2
       go_wp2_with fail
       go_roundg (L.length-(j+1)+1)
       case measure=>omega
       case rel=>exact ⟨j+1,a+k,m',by omega,Nat.le_refl _,by go_num,by omega,Lib.hid (by rw [take_snocC HCONS.out];exact J3),Lib.hid (by rw [drop_snocC HCONS.out];exact HREST.out)⟩
     · have tk0:((0:Int) != 0)=false:=rfl;go_upto_region 5 with (go_at_call 76;refine (tag_any H.out.c2 rfl H.out.le H.out.cap H.out.words HT.out).mono ?_;rintro e w1 ⟨rfl,hb1⟩;obtain ⟨hc1,hf1,hs1⟩:=hb1.cells)
       clear c2 gy tk;have J2:=Lib.hid (EE.out _ _ _ JJ.out hb1);obtain ⟨fn,tmps,assign,body,hy,hR⟩:=YY.out (L.take j) (a,k) r w1 (by rw [← HCONS.out,List.take_append_drop]) J2.out;dsimp only [encC] at hy;refine (wpIn_wide (n:=4)).1 ?_
       gi_wp2
       refine hR.mono ?_;rintro e w3 ⟨rfl,J3⟩
       gi_wp2
       go_wp2_with fail
       go_roundg (L.length-(j+1)+1)
       case measure=>omega
       case rel=>exact ⟨j+1,a+k,m',by omega,Nat.le_refl _,by go_num,by omega,Lib.hid (by rw [take_snocC HCONS.out];exact J3),Lib.hid (by rw [drop_snocC HCONS.out];exact HREST.out)⟩
open Go.RowKit Go.Maps
attribute [local go_sem] Oper.semAt_some
def Hp.Hs.gapSums (S:Hp.Hs) (L:List (Nat × Nat)):Nat × Nat:=L.foldl (fun q x=>if S.tag x.1=some 0 then (q.1+x.2,max q.2 x.2) else q) (0,0)
theorem setCell_again {a w:World} {p:Addr} {u:Value} (h:∀ k:Nat,w.heap[k]? = a.heap[k]?) (hc:a.cell? p=some u):∀ k:Nat,(w.setCell p u).heap[k]? = a.heap[k]? :=
 fun k=>(setCell_same_block (by rw [World.cell?_of_block (h _)];exact hc) k).trans (h k)
theorem gapSums_snoc (S:Hp.Hs) (L:List (Nat × Nat)) (x:Nat × Nat):S.gapSums (L ++ [x])=if S.tag x.1=some 0 then ((S.gapSums L).1+x.2,max (S.gapSums L).2 x.2) else S.gapSums L:=by
 simp [Hp.Hs.gapSums,List.foldl_append]
theorem pieces_tag {S:Hp.Hs}:∀ {n a:Nat} {L:List (Nat × Nat)},S.piecesFrom n a=some L → ∀ x ∈ L,(∃ t,S.tag x.1=some t) ∧ x.2 ≤ 1000000
 | 0,a,L,h=>by simp [Hp.Hs.piecesFrom] at h
 | n+1,a,L,h=>by
  rcases piecesFrom_succ h with ⟨_,rfl⟩ | ⟨_,n',x,t,k,r,hn,_,ht,_,hk,rfl,hr⟩
  · simp
  · intro y hy
    rcases List.mem_cons.1 hy with rfl | hy
    · exact ⟨⟨t,ht⟩,hk⟩
    · exact pieces_tag hr y hy
theorem gapSums_small {S:Hp.Hs}:∀ (r pre:List (Nat × Nat)),(∀ x ∈ pre ++ r,x.2 ≤ 1000000) → (S.gapSums pre).1 ≤ 1000000 * pre.length → (S.gapSums pre).2 ≤ 1000000 → (S.gapSums (pre ++ r)).1 ≤ 1000000 * (pre ++ r).length ∧ (S.gapSums (pre ++ r)).2 ≤ 1000000
 | [],pre,_,h1,h2=>by simpa using ⟨h1,h2⟩
 | x :: r,pre,h,h1,h2=>by
  have hx:=h x (by simp)
  have:=gapSums_small (S:=S) r (pre ++ [x]) (fun y hy=>h y (by simpa using hy)) (by
   rw [gapSums_snoc,List.length_append,List.length_singleton]
   split
   · show (S.gapSums pre).1+x.2 ≤ _;omega
   · omega) (by
   rw [gapSums_snoc]
   split
   · show max (S.gapSums pre).2 x.2 ≤ _;omega
   · exact h2)
  rw [show pre ++ x :: r=(pre ++ [x]) ++ r by simp];exact this
theorem sums_small {S:Hp.Hs} {L:List (Nat × Nat)} (h:∀ x ∈ L,x.2 ≤ 1000000):(S.gapSums L).1 ≤ 1000000 * L.length ∧ (S.gapSums L).2 ≤ 1000000:=by
 simpa using gapSums_small (S:=S) L [] (by simpa using h) (by simp [Hp.Hs.gapSums]) (by simp [Hp.Hs.gapSums])
theorem HAt.below_ {w w':World} {d:Hd} {S:Hp.Hs} {B:Nat} (h:HAt w d S) (k:Below B w w') (ho:∀ b ∈ d.own,b < B) (h1:∀ b o,d.sp=some ⟨b,o,none⟩ → b < B) (h2:∀ b o,d.op=some ⟨b,o,none⟩ → b < B):HAt w' d S:=by
 have kb:But (List.range' B (w.heap.size-B)) w w':=⟨k.os,k.tape,k.output,k.size,fun i hi hn=>k.block i (by
  rcases Nat.lt_or_ge i B with h | h
  · exact h
  · exact absurd (List.mem_range'_1.2 ⟨h,by omega⟩) hn)⟩
 have key:∀ b,b < B → b ∉ List.range' B (w.heap.size-B):=fun b hb hm=>by
  have:=(List.mem_range'_1.1 hm).1;omega
 exact h.but kb (key _ (ho _ d.hb_own)) (key _ (ho _ d.gw_own)) (key _ (ho _ d.gm_own)) (fun b o e=>key _ (h1 b o e)) (fun b o e=>key _ (h2 b o e))
structure StatsI (w0:World) (d:Hd) (S:Hp.Hs) (B n m:Nat) (pre:List (Nat × Nat)) (W:World):Prop where
 at_:HAt W d S
 ext:Ext w0 W
 box:W.cell? ⟨B,0,none⟩=some (.pointer (some ⟨d.hb,0,none⟩))
 s0:W.cell? ⟨B+1,0,none⟩=some (.int .i64 n)
 s1:W.cell? ⟨B+1,1,none⟩=some (.int .i64 m)
 s2:W.cell? ⟨B+1,2,none⟩=some (.int .i64 (S.gapSums pre).1)
 s3:W.cell? ⟨B+1,3,none⟩=some (.int .i64 (S.gapSums pre).2)
 fz:∀ k,W.frozen? ⟨B+1,k,none⟩=false
theorem Ext.trans' {a b c:World} {B:Nat} (h:Ext a b) (k:Below B b c) (hB:a.heap.size ≤ B):Ext a c:=Below.trans h (Below.mono k hB)
namespace StatsI
variable {w0 W W':World} {d:Hd} {S:Hp.Hs} {B n m:Nat} {pre:List (Nat × Nat)}
theorem ext_ (h:StatsI w0 d S B n m pre W) (k:Ext W W'):StatsI w0 d S B n m pre W':=
 have z0:=cell_lt h.box
 have z1:=cell_lt h.s0
 { at_:=h.at_.ext k,ext:=h.ext.trans k,box:=(k.cell z0 0).trans h.box,s0:=(k.cell z1 0).trans h.s0,s1:=(k.cell z1 1).trans h.s1,s2:=(k.cell z1 2).trans h.s2,s3:=(k.cell z1 3).trans h.s3,fz:=fun j=>(k.frozen z1 j).trans (h.fz j) }
theorem skip (h:StatsI w0 d S B n m pre W) {a k:Nat} {t:Int} (ht:S.tag a=some t) (h0:¬ t=0):StatsI w0 d S B n m (pre ++ [(a,k)]) W:=by
 have e:S.gapSums (pre ++ [(a,k)])=S.gapSums pre:=by
  rw [gapSums_snoc,if_neg];rw [ht]
  simpa using h0
 exact { at_:=h.at_,ext:=h.ext,box:=h.box,s0:=h.s0,s1:=h.s1,s2:=by rw [e];exact h.s2,s3:=by rw [e];exact h.s3,fz:=h.fz }
theorem step (h:StatsI w0 d S w0.heap.size n m pre W) {a k x y:Nat} (ht:S.tag a=some 0) (hx:(S.gapSums pre).1=x) (hy:(S.gapSums pre).2=y) (own0:∀ b ∈ d.own,b < w0.heap.size) (h1:∀ b o,d.sp=some ⟨b,o,none⟩ → b < w0.heap.size) (h2:∀ b o,d.op=some ⟨b,o,none⟩ → b < w0.heap.size) :
    StatsI w0 d S w0.heap.size n m (pre ++ [(a,k)]) ((W.setCell ⟨w0.heap.size+1,2,none⟩ (.int .i64 ((x:Int)+(k:Int)))).setCell ⟨w0.heap.size+1,3,none⟩ (.int .i64 (max (y:Int) (k:Int)))):=by
  have e:S.gapSums (pre ++ [(a,k)])=(x+k,max y k):=by
   rw [gapSums_snoc,if_pos ht,hx,hy]
  have kb:But [w0.heap.size+1] W ((W.setCell ⟨w0.heap.size+1,2,none⟩ (.int .i64 ((x:Int)+(k:Int)))).setCell ⟨w0.heap.size+1,3,none⟩ (.int .i64 (max (y:Int) (k:Int)))):=((But.refl _ _).setCell (.inl (by simp)) _).setCell (.inl (by simp)) _;have o1:=own0 _ d.hb_own;have o2:=own0 _ d.gw_own;have o3:=own0 _ d.gm_own;exact
  { at_:=h.at_.but kb (by simp;omega) (by simp;omega) (by simp;omega) (fun b o e=>by have:=h1 b o e;simp;omega) (fun b o e=>by have:=h2 b o e;simp;omega)
    ext:=Ext.setCell (Ext.setCell h.ext (by simp) _) (by simp) _
    box:=by simpa [go_sem] using h.box
    s0:=by simpa [go_sem] using h.s0
    s1:=by simpa [go_sem] using h.s1
    s2:=by
     rw [e];have:=World.cell?_setCell_same (w:=W) ⟨w0.heap.size+1,2,none⟩ (.int .i64 ((x:Int)+(k:Int))) h.s2
     simpa [go_sem] using this
    s3:=by
     rw [e];have h3:(W.setCell ⟨w0.heap.size+1,2,none⟩ (.int .i64 ((x:Int)+(k:Int)))).cell? ⟨w0.heap.size+1,3,none⟩=some (.int .i64 (S.gapSums pre).2):=by simpa [go_sem] using h.s3
     have:=World.cell?_setCell_same (w:=W.setCell ⟨w0.heap.size+1,2,none⟩ (.int .i64 ((x:Int)+(k:Int)))) ⟨w0.heap.size+1,3,none⟩ (.int .i64 (max (y:Int) (k:Int))) h3;rw [this]
     congr 2
     simp only;omega
    fz:=fun j=>by simpa [go_sem] using h.fz j }
end StatsI
theorem wp_then_false {P:Program} {c:Code} {K:Act → World → Prop} {Q:Exit → Act → World → Prop} {a:Act} {w:World} (h:c.wp P (Exit.then K fun _ _ _=>False) a w):c.wp P (Exit.then K Q) a w:=
 wp_mono h fun e a w he=>by
  cases e
  case normal=>exact he
  all_goals exact False.elim he
set_option maxRecDepth 100000 in
set_option maxHeartbeats 8000000 in
theorem Stats_any {w:World} {d:Hd} {S:Hp.Hs} {T:List Nat} {L:List (Nat × Nat)} (h:HAt w d S) (hl:S.live=some T) (hp:S.piecesFrom S.fuel 17=some L) :
    Calls Tryz.prog 21 #[.pointer (some ⟨d.hb,0,none⟩)] w fun e w'=>e = .returned (.tuple #[.agg #[.int .i64 S.taken.length,.int .i64 T.length,.int .i64 (S.gapSums L).1,.int .i64 (S.gapSums L).2],.int .i64 0]) ∧ Ext w w':=by
  have H:=Lib.hid h;have HL:=Lib.hid hl;have HP:=Lib.hid hp;clear h hl hp;refine (callsIn_wide (n:=5)).1 (callsIn_of_wp_marks Tryz.func21 rfl trivial ?_ rfl);simp only [Tryz.ntmps21,List.size_toArray,List.length_cons,List.length_nil,Nat.reduceAdd,Nat.reduceSub,Array.replicate_succ,Array.replicate_zero,List.push_toArray,List.append_toArray,List.nil_append,List.cons_append];refine wpIn_wide.2 ?_;go_upto_region 3 with (go_at_call 72;refine (isMade_yes (H.out.ext exx)).mono ?_;rintro e w1 ⟨rfl,hb1⟩;obtain ⟨hc1,hf1,hs1⟩:=hb1.cells;have hz1_0:w.heap.size < w1.heap.size:=(by have h:=hb1.le;(try simp at h);omega);have hc1_0:=hb1.cell (b:=w.heap.size) (by first | omega | (simp;done) | (simp;omega));have hf1_0:=hb1.frozen (b:=w.heap.size) (by first | omega | (simp;done) | (simp;omega));have hz1_1:w.heap.size+1 < w1.heap.size:=(by have h:=hb1.le;(try simp at h);omega);have hc1_1:=hb1.cell (b:=w.heap.size+1) (by first | omega | (simp;done) | (simp;omega));have hf1_1:=hb1.frozen (b:=w.heap.size+1) (by first | omega | (simp;done) | (simp;omega)))
  have W1:Ext w w1:=exx;have H1:=Lib.hid (H.out.ext W1);have b0:w1.cell? ⟨w.heap.size,0,none⟩=some (.pointer (some ⟨d.hb,0,none⟩)):=by rw [hc1_0];simp [go_sem]
  have c3:=H1.out.c3;have z0:=H1.out.lt;have hln:=fun ty=>H1.out.map.len (t:=102) Tryz.underlying102 ty
  refine wp_then_false ?_;refine wp_region_any (by kernel_rfl) ?_;have PR16:=Lib.hid (fun (ww:World) (hSw:Ext w1 ww)=>And.intro ((hSw.cell z0 3).trans c3) (And.intro ((hSw.cell hz1_0 0).trans b0) (fun ty=>(H1.out.map.ext hSw).len (t:=102) Tryz.underlying102 ty)));refine wpAny_to_X (S:=fun W=>Ext w1 W) (R:=Ext) 9 9 Ext.refl ?_ ?_ (by rfl)
  · exact Ext.drew exx
  refine' tkY 0 rfl ?h0_206 ?_
  case h0_206=>(intro w q;obtain ⟨c3',b0',hln'⟩:=PR16.out w q;go_simp;try with_reducible rfl)
  refine layy ?_;refine' tkY 1 rfl ?h1_207 ?_
  case h1_207=>(intro w q;obtain ⟨c3',b0',hln'⟩:=PR16.out w q;go_simp;try with_reducible rfl)
  refine layy ?_;refine' tkY 2 rfl ?h2_208 ?_
  case h2_208=>(intro w q;obtain ⟨c3',b0',hln'⟩:=PR16.out w q;go_simp;try with_reducible rfl)
  refine layy ?_;refine' tkY 3 rfl ?h3_209 ?_
  case h3_209=>(intro w q;obtain ⟨c3',b0',hln'⟩:=PR16.out w q;go_simp;try with_reducible rfl)
  refine layy ?_;refine' tkY 4 rfl ?h4_210 ?_
  case h4_210=>(intro w q;obtain ⟨c3',b0',hln'⟩:=PR16.out w q;go_simp;try with_reducible rfl)
  refine layy ?_;refine' tkY 5 rfl ?h5_211 ?_
  case h5_211=>(intro w q;obtain ⟨c3',b0',hln'⟩:=PR16.out w q;go_simp;try with_reducible rfl)
  refine layy ?_;refine' tkY 6 rfl ?h6_212 ?_
  case h6_212=>(intro w q;obtain ⟨c3',b0',hln'⟩:=PR16.out w q;go_simp;try with_reducible rfl)
  refine layy ?_;refine' tkX 7 (v:=.int .i64 T.length) rfl (Or.inr ⟨by rfl,74,_, ?hx7_213, ?hy7_213⟩) ?rest7_213
  case hx7_213=>(intro w hSw;go_simp;try with_reducible rfl)
  case hy7_213=>exact fun w hE=>(ctake_any (H1.out.ext hE) HL.out).mono (fun _ _ h=>⟨h.1,h.2,Ext.trans hE h.2⟩)
  refine layy ?_;refine' tkY 8 rfl ?h8_214 ?_
  case h8_214=>(intro w q;obtain ⟨c3',b0',hln'⟩:=PR16.out w q;go_simp;try with_reducible rfl)
  refine layy ?_;refine wpAnyX_done (by kernel_rfl) ?_;intro x1 _ Ex1;simp only [List.drop_succ_cons,List.drop_zero];have a0:∀ k,k < 4 → x1.cell? ⟨w.heap.size+1,k,none⟩=some (.int .i64 0):=fun k hk=>by
   have e:x1.cell? ⟨w.heap.size+1,k,none⟩=w1.cell? ⟨w.heap.size+1,k,none⟩:=Ex1.cell (by omega) k;rw [e,hc1_1];have:k=0 ∨ k=1 ∨ k=2 ∨ k=3:=by omega
   rcases this with rfl | rfl | rfl | rfl <;> simp [go_sem]
  have fz:∀ k,x1.frozen? ⟨w.heap.size+1,k,none⟩=false:=fun k=>by
   have e:x1.frozen? ⟨w.heap.size+1,k,none⟩=w1.frozen? ⟨w.heap.size+1,k,none⟩:=Ex1.frozen (by omega) k;rw [e,hf1_1];simp [go_sem]
  have bx:x1.cell? ⟨w.heap.size,0,none⟩=some (.pointer (some ⟨d.hb,0,none⟩)):=(Ex1.cell hz1_0 0).trans b0;have a00:=a0 0 (by omega);have a01:=a0 1 (by omega);have f00:=fz 0;have f01:=fz 1;clear b0 c3 hln
  go_wp2_with fail
  obtain ⟨W2,hW2⟩:∃ W2,((x1.setCell ⟨w.heap.size+1,0,none⟩ (.int .i64 S.taken.length)).setCell ⟨w.heap.size+1,1,none⟩ (.int .i64 T.length))=W2:=⟨_,rfl⟩
  have E2:Ext w W2:=by
   rw [← hW2];exact exx
  have I0:StatsI w d S w.heap.size S.taken.length T.length [] W2:=by
   rw [← hW2];have kb:But [w.heap.size+1] x1 ((x1.setCell ⟨w.heap.size+1,0,none⟩ (.int .i64 S.taken.length)).setCell ⟨w.heap.size+1,1,none⟩ (.int .i64 T.length)):=((But.refl _ _).setCell (.inl (by simp)) _).setCell (.inl (by simp)) _;have o:=H.out.own_lt;have o1:=o _ d.hb_own;have o2:=o _ d.gw_own;have o3:=o _ d.gm_own;exact
   { at_:=(H1.out.ext Ex1).but kb (by simp;omega) (by simp;omega) (by simp;omega) (fun b o e=>by have:=H.out.old1 b o e;simp;omega) (fun b o e=>by have:=H.out.old2 b o e;simp;omega)
     ext:=by rw [hW2];exact E2
     box:=by simpa [go_sem] using bx
     s0:=by simpa [go_sem] using World.cell?_setCell_same _ _ _ a00
     s1:=World.cell?_setCell_same _ _ _ (by simpa [go_sem] using a01)
     s2:=by simpa [go_sem,Hp.Hs.gapSums] using a0 2 (by omega)
     s3:=by simpa [go_sem,Hp.Hs.gapSums] using a0 3 (by omega)
     fz:=fun k=>by simpa [go_sem] using fz k }
  rw [hW2];have sz2:w.heap.size+1 < W2.heap.size:=cell_lt I0.s0;have IH:=Lib.hid I0;have own0:=H.out.own_lt;have old1:=H.out.old1;have old2:=H.out.old2;clear a0 fz bx a00 a01 f00 f01 I0 hc1_0 hf1_0 hc1_1 hf1_1;refine (wpIn_wide (n:=5)).1 ?_
  refine' wpIn_bound (F:=Fence.wide) (n:=5) rfl (by omega) (gf:=75) (first:=#[.pointer (some ⟨d.hb,0,none⟩)]) rfl trivial (enters_of Tryz.func75 (by kernel_rfl) rfl) (cells_gives HP.out) (fun _=>rfl)
   (StatsI w d S w.heap.size S.taken.length T.length) ?hI (fun _ _ h=>h.at_) IH.out _ ?assign ?body ?done
  case hI=>
   intro pre W W' hi hsz hb;exact
   { at_:=hi.at_.below_ hb (fun b hm=>by have:=own0 b hm;omega) (fun b o e=>by have:=old1 b o e;omega) (fun b o e=>by have:=old2 b o e;omega)
     ext:=hi.ext.trans' hb (by omega)
     box:=(hb.cell (p:=⟨w.heap.size,0,none⟩) (by simp;omega)).trans hi.box
     s0:=(hb.cell (p:=⟨w.heap.size+1,0,none⟩) (by simp;omega)).trans hi.s0
     s1:=(hb.cell (p:=⟨w.heap.size+1,1,none⟩) (by simp;omega)).trans hi.s1
     s2:=(hb.cell (p:=⟨w.heap.size+1,2,none⟩) (by simp;omega)).trans hi.s2
     s3:=(hb.cell (p:=⟨w.heap.size+1,3,none⟩) (by simp;omega)).trans hi.s3
     fz:=fun k=>(hb.frozen (p:=⟨w.heap.size+1,k,none⟩) (by simp;omega)).trans (hi.fz k) }
  case assign=>
   intro l x W K hK;dsimp only [encC]
   gi_wp2
   exact hK
  case body=>
   intro l pre x r W hLx hi hsz;obtain ⟨⟨t,ht⟩,hk⟩:=pieces_tag HP.out x (by rw [hLx];simp);have hsm:=sums_small (S:=S) (L:=pre) (fun y hy=>(pieces_tag HP.out y (by rw [hLx];simp [hy])).2);have hpl:pre.length ≤ 2000000:=by
    have h1:=pieces_len HP.out;have h2:=congrArg List.length hLx;have h3:=hi.at_.small;simp only [Hp.Hs.fuel,List.length_append,List.length_cons] at h1 h2;omega
   have HI:=Lib.hid hi;have HT:=Lib.hid ht;have bx:=hi.box;clear hLx hi ht;obtain ⟨a,ha⟩:∃ a,(S.gapSums pre).1=a:=⟨_,rfl⟩
   obtain ⟨m,hm⟩:∃ m,(S.gapSums pre).2=m:=⟨_,rfl⟩
   obtain ⟨xa,k⟩:=x;simp only at hk HT;rw [ha,hm] at hsm;have w1:IntKind.i64.wrap ((a:Int)+(k:Int))=(a:Int)+(k:Int):=IntWalk.i64_in _ (by omega);have HA:=Lib.hid ha;have HM:=Lib.hid hm;have zW:w.heap.size+1 < W.heap.size:=by omega
   clear ha hm
   by_cases h0:t=0
   · subst h0
     gi_wp2_with (refine ⟨trivial, ?_⟩;gi_at_call 76;refine (CallsIn.inRound l (callsIn_wide.2 (tag_any HI.out.at_.c2 rfl HI.out.at_.le HI.out.at_.cap HI.out.at_.words HT.out))).mono ?_;rintro e w3 ⟨rfl,hb3⟩;have g2:=(hb3.cell zW 2).trans HI.out.s2;have g3:=(hb3.cell zW 3).trans HI.out.s3;rw [HA.out] at g2;rw [HM.out] at g3;have q2:=(hb3.frozen zW 2).trans (HI.out.fz 2);have q3:=(hb3.frozen zW 3).trans (HI.out.fz 3))
     have I3:StatsI w d S w.heap.size S.taken.length T.length pre w3:=HI.out.ext_ hb3;exact ⟨Rest.setCell (Rest.setCell ((Rest.refl _ _).ext hb3) (by simp;omega) _) (by simp;omega) _,I3.step HT.out HA.out HM.out (own0:=fun b hm=>by have:=own0 b hm;omega) (fun b o e=>by have:=old1 b o e;omega) (fun b o e=>by have:=old2 b o e;omega)⟩
   · have t0:(t == 0)=false:=by simpa using h0
     gi_wp2_with (refine ⟨trivial, ?_⟩;gi_at_call 76;refine (CallsIn.inRound l (callsIn_wide.2 (tag_any HI.out.at_.c2 rfl HI.out.at_.le HI.out.at_.cap HI.out.at_.words HT.out))).mono ?_;rintro e w3 ⟨rfl,hb3⟩)
     exact ⟨(Rest.refl _ _).ext hb3,(HI.out.ext_ hb3).skip HT.out h0⟩
  case done=>
   intro W hi hsz hD;dsimp only;have HI:=Lib.hid hi;have g0:=hi.s0;have g1:=hi.s1;have g2:=hi.s2;have g3:=hi.s3;have q:=hi.fz;have q0:=hi.fz 0;have q1:=hi.fz 1;have q2:=hi.fz 2;have q3:=hi.fz 3
   go_wp2_with fail
   clear q0 q1 q2 q3 g0 g1 g2 g3 q hi;obtain ⟨V,hV⟩:∃ V,((((W.setCell ⟨w.heap.size+1,0,none⟩ (.int .i64 S.taken.length)).setCell ⟨w.heap.size+1,1,none⟩ (.int .i64 T.length)).setCell ⟨w.heap.size+1,2,none⟩ (.int .i64 (S.gapSums L).1)).setCell ⟨w.heap.size+1,3,none⟩ (.int .i64 (S.gapSums L).2))=V:=⟨_,rfl⟩
   have hB:∀ k:Nat,V.heap[k]? = W.heap[k]? := by
    rw [← hV];exact setCell_again (setCell_again (setCell_again (setCell_again (fun _=>rfl) HI.out.s0) HI.out.s1) HI.out.s2) HI.out.s3
   have EV:Ext w V:=by
    rw [← hV];exact Ext.setCell (Ext.setCell (Ext.setCell (Ext.setCell HI.out.ext (by simp) _) (by simp) _) (by simp) _) (by simp) _
   rw [hV];have hD':=(hB W2.heap.size).trans hD;refine ⟨by simp,.inl ⟨_,_,rfl,run_takeDeferred hD', ?_⟩⟩;have kp:∀ j,(V.putObj W2.heap.size (.deferred none)).cell? ⟨w.heap.size+1,j,none⟩=W.cell? ⟨w.heap.size+1,j,none⟩:=fun j=>World.cell?_of_block ((World.putObj_heap_other (by simp;omega)).trans (hB _))
   have v0:=(kp 0).trans HI.out.s0;have v1:=(kp 1).trans HI.out.s1;have v2:=(kp 2).trans HI.out.s2;have v3:=(kp 3).trans HI.out.s3;have EP:Ext w (V.putObj W2.heap.size (.deferred none)):=EV.trans' (below_putObj (B:=w.heap.size) _ (by omega)) (Nat.le_refl _);generalize V.putObj W2.heap.size (.deferred none)=U at *;refine ⟨.tuple #[.agg #[.int .i64 S.taken.length,.int .i64 T.length,.int .i64 (S.gapSums L).1,.int .i64 (S.gapSums L).2],.int .i64 0], ?_,rfl,EP⟩;clear hV hB EV hD hD' HI kp;simp [results,Tryz.results21,go_sem, *]
open Go.RowKit Go.Maps
section
open Go.Sort Go.Shelf
def keysI (M:List (Nat × Int)):List Nat:=M.map fun p=>p.1
theorem intKeys_mapOfI (M:List (Nat × Int)):intKeys (mapOfI M)=natInts (keysI M):=by
 simp only [intKeys,mapOfI,natInts,keysI,List.map_map]
 rfl
theorem keysI_sorted {M:List (Nat × Int)} (h:KeysUp M):(keysI M).Pairwise (· < ·):=by
 unfold keysI
 rw [List.pairwise_map]
 exact h
theorem keysI_call (g:Nat) (W:World):Calls Tryz.prog 118 #[.map (some g)] W fun e w'=>e = .returned (.func (.func 164) #[] #[.pointer (some ⟨W.heap.size,0,none⟩)]) ∧ w'=W.alloc (.cells #[.map (some g)] 119):=
 callsIn_wide.1 (AnyZI.keys_in Tryz.keysI Fence.wide 5 trivial rfl (some g) W)
theorem sortedI_call {w:World} {g:Nat} {M:List (Nat × Int)} (h:MapIAt Tryz.prog w g M) (hT:∀ x ∈ keysI M,x < 1000000) :
    Calls Tryz.prog 117 #[.func (.func 164) #[] #[.pointer (some ⟨w.heap.size,0,none⟩)]] (w.alloc (.cells #[.map (some g)] 119)) (SortedPost w (w.alloc (.cells #[.map (some g)] 119)) (keysI M)):=by
  have hbl:=h.lt;have hsrt:=keysI_sorted h.up;have hlen:=sorted_len hsrt hT;have hlk:(keysI M).length=M.length:=by simp [keysI]
  have hown:=h.owns
  have hseq:SeqGives Fence.wide 2 Tryz.prog 164 #[.pointer (some ⟨w.heap.size,0,none⟩)] encZ (fun ss=>ss.Perm (intKeys (mapOfI M))) (Maps.size (mapOfI M)) (w.alloc (.cells #[.map (some g)] 119)):=
   AnyZI.keys_gives (ρ:=Tryz.keysI_ren) { Tryz.keysI with } Fence.wide _ trivial rfl (by omega) w.heap.size g M.length (mapOfI M) _ (by simp) (by simp) (hown.alloc _)
  have cS:=AnyZI.sorted_in Tryz.sortedA Fence.wide 5 trivial trivial trivial trivial rfl (by omega) (sortsA _) (enters_of Tryz.func163 (by kernel_rfl) rfl) 164 #[.pointer (some ⟨w.heap.size,0,none⟩)] trivial (enters_of Tryz.func164 (by kernel_rfl) rfl) _ _ (by rw [size_mapOfI];unfold maxLen;omega) (by rw [size_mapOfI];omega) _ hseq;refine (callsIn_wide.1 cS).mono ?_;rintro e w' ⟨v,ss,rfl,hS,hrow,hnil,hb⟩;rw [intKeys_mapOfI] at hS;generalize keysI M=T at *;rw [sorted_natInts hsrt hS] at hrow;have hl:ss.length=T.length:=by rw [hS.length_eq,natInts_length]
  rw [hl] at hrow;have hbd:∀ x ∈ natInts T,-9223372036854775808 ≤ x ∧ x ≤ 9223372036854775807:=by
   intro x hx;obtain ⟨y,hy,rfl⟩:=List.mem_map.1 hx;have:=hT y hy;omega
  rcases hrow.2 with ⟨rfl,hz⟩ | ⟨gb,cap,cur,rfl,hbase,hgb,r1,r2,r3,r4⟩
  · have:T=[]:=List.eq_nil_of_length_eq_zero hz;subst this;exact ⟨none,0,rfl,⟨by simp [natInts],by omega,hbd,fun h=>by simp [natInts] at h⟩,by simp,hb⟩
  · refine ⟨some ⟨gb,0,none⟩,cap,rfl,⟨?_, ?_,hbd,fun h0=>⟨gb,0,rfl,(Array.getElem?_eq_some_iff.1 hgb).1,fun j x hj=>?_⟩⟩,fun b o e=>by cases e;simp at hbase;omega,hb⟩
    · rw [natInts_length];omega
    · unfold maxLen at *;omega
    · have hj2:((natInts T).map encZ)[j]? = some (.int .i64 x):=by
        unfold Hp.rd at hj;simp [hj,encZ]
      have:=hrow.cells (g:=gb) rfl j _ hj2;rw [Addr.add_lit] at this
      simpa using this
end
theorem wpList_append_ints {w:World} {ops:Array Oper} {rest:List Oper} {o:Oper} {a:Act} {Q:Exit → Act → World → Prop} (hgd:o.guard=none) (s x:Operand)
    (ho:o.op = .call { callee:=.builtin .append,args:=#[s,x],argTypes:=#[22,22] }) {base c b:Nat} {p:Option Addr} {l ys:List Int} (hs:a.eval s = .slice p l.length c) (hx:a.eval x = .slice (some ⟨b,0,none⟩) ys.length ys.length) (hys0:0 < ys.length)
    (hrow:Row w base p c l) (hy:∀ j y,Hp.rd ys j=some y → w.cell? ⟨b,j,none⟩=some (.int .i64 y)) (hyb:∀ y ∈ ys,-9223372036854775808 ≤ y ∧ y ≤ 9223372036854775807) (hlen:l.length+ys.length < 10000000) (hbase:base ≤ w.heap.size)
    (h:∀ g cap w',Row w' base (some ⟨g,0,none⟩) cap (l ++ ys) → (∃ row,w.grownBy w' row ∧ ∀ r,row=some r → base ≤ r) → wpList Tryz.prog ops Q rest (a.put o.dst (.slice (some ⟨g,0,none⟩) (l.length+ys.length) cap)) w'):wpList Tryz.prog ops Q (o :: rest) a w:=by
  obtain ⟨i0,hi,hz0,hz1,hz2⟩:=info_parts (show (Tryz.prog.info? 3).map (fun i=>(i.zero,i.size,i.bytes))=some (some (.int .i64 0),1,8) from by kernel_rfl)
  refine wpList_append_lies w hgd s x 22 ho base 3 i0 (.int .i64 0) 1 8 Tryz.underlying22 hi hz0 hz1 hz2 rfl (by decide) _ _ _ hs hrow.1 ⟨b,0,none⟩ ys.length ys.length (ints ys) hx (by simp [ints]) (fun j u hj=>?_) (by
      intro v hv;obtain ⟨y,_,rfl⟩:=List.mem_map.1 hv;rfl) (by omega) (by unfold maxLen;omega) (by omega) hbase _ rfl ?_
  · unfold ints at hj;rw [List.getElem?_map] at hj
    cases hq:ys[j]? with
    | none=>rw [hq] at hj;cases hj
    | some y=>
     rw [hq] at hj
     cases hj
     rw [Addr.add_lit];have:=hy j y hq
     simpa using this
  · intro g cap w' hown hgrow hor _;have hown':=hown;have e1:(l ++ ys).length=l.length+ys.length:=by simp
    refine h g cap w' ⟨by rw [e1];simpa [ints] using hown',fun z hz=>?_⟩ ⟨_,hgrow,fun r hr=>?_⟩
    · rcases List.mem_append.1 hz with hz | hz
      · exact hrow.2 z hz
      · exact hyb z hz
    · cases p with
      | none=>simp [Value.ownBlock] at hr
      | some q=>
       have hr':q.block=r:=by simpa [Value.ownBlock] using hr
       subst hr'
       rcases hrow.1.2 with ⟨e,_⟩ | ⟨g',cap',cur,e,h1,_⟩
       · injection e with e1
         cases e1
       · injection e with e1
         cases e1
         exact h1
def told (M:List (Nat × Int)):List Int:=M.flatMap fun p=>if p.2 ≠ p.1 then [(p.1:Int),p.2] else []
theorem told_snoc {M:List (Nat × Int)} {j:Nat} {p:Nat × Int} (h:M[j]? = some p):told (M.take (j+1))=told (M.take j) ++ (if p.2 ≠ p.1 then [(p.1:Int),p.2] else []):=by
 obtain ⟨hl,rfl⟩:=List.getElem?_eq_some_iff.1 h
 unfold told
 rw [List.take_succ_eq_append_getElem hl,List.flatMap_append,List.flatMap_cons,List.flatMap_nil,List.append_nil]
theorem told_len:∀ M:List (Nat × Int),(told M).length ≤ 2 * M.length
 | []=>by simp [told]
 | p :: r=>by
  have:=told_len r;unfold told at this ⊢;rw [List.flatMap_cons,List.length_append]
  split <;> simp only [List.length_cons,List.length_nil] <;> omega
theorem getI_at:∀ {M:List (Nat × Int)} {j:Nat} {p:Nat × Int},KeysUp M → M[j]? = some p → getI p.1 M=some p.2
 | [],j,p,_,h=>by simp at h
 | (a,v) :: r,0,p,_,h=>by
  simp at h;subst h;simp [getI]
 | (a,v) :: r,j+1,p,hu,h=>by
  obtain ⟨h1,h2⟩:=List.pairwise_cons.1 hu;have hp:p ∈ r:=List.mem_of_getElem? (by simpa using h);have:=h1 p hp;simp only at this;unfold getI;rw [if_neg (by omega)];exact getI_at h2 (by simpa using h)
structure Cp (w W:World) (B:Nat) (own:List Nat) (d:Hd) (S:Hp.Hs) (gm:Nat) (M:List (Nat × Int)) (ps:Option Addr) (cs:Nat):Prop where
 at_:HAt W d S
 but:But own w W
 moved:MapIAt Tryz.prog W gm M
 cells:SliceAt W ps cs (natInts (keysI M))
 b1:∀ b ∈ d.own,b < B
 b2:∀ b o,d.sp=some ⟨b,o,none⟩ → b < B
 b3:∀ b o,d.op=some ⟨b,o,none⟩ → b < B
 b4:gm < B
 b5:∀ b o,ps=some ⟨b,o,none⟩ → 0 < M.length → b < B
 b6:w.heap.size ≤ B
 b7:B ≤ W.heap.size
theorem SliceAt.below_ {w w':World} {p:Option Addr} {c B:Nat} {l:List Int} (h:SliceAt w p c l) (k:Below B w w') (hp:∀ b o,p=some ⟨b,o,none⟩ → 0 < l.length → b < B):SliceAt w' p c l:=by
 refine ⟨h.le,h.cap,h.wf,fun h0=>?_⟩
 obtain ⟨b,o,rfl,hb,hc⟩:=h.cells h0
 exact ⟨b,o,rfl,Nat.lt_of_lt_of_le hb k.size,fun j x hx=>(k.cell (p:=⟨b,o+j,none⟩) (hp b o rfl h0)).trans (hc j x hx)⟩
theorem Cp.below {w W W':World} {B:Nat} {own:List Nat} {d:Hd} {S:Hp.Hs} {gm:Nat} {M:List (Nat × Int)} {ps:Option Addr} {cs:Nat} (h:Cp w W B own d S gm M ps cs) (k:Below B W W'):Cp w W' B own d S gm M ps cs:=
 { at_:=h.at_.below_ k h.b1 h.b2 h.b3
   but:=⟨k.os.trans h.but.os,k.tape.trans h.but.tape,k.output.trans h.but.output,Nat.le_trans h.but.size k.size,fun i hi hn=>(k.block i (Nat.lt_of_lt_of_le hi h.b6)).trans (h.but.block i hi hn)⟩
   moved:=h.moved.ofBlock (k.block _ h.b4)
   cells:=h.cells.below_ k (fun b o e h0=>h.b5 b o e (by simpa [natInts,keysI] using h0))
   b1:=h.b1
   b2:=h.b2
   b3:=h.b3
   b4:=h.b4
   b5:=h.b5
   b6:=h.b6
   b7:=Nat.le_trans h.b7 k.size }
theorem below_grown {B:Nat} {W W':World} {row:Option Nat} (k:W.grownBy W' row) (hr:∀ r,row=some r → B ≤ r) (hB:B ≤ W.heap.size):Below B W W':=
 ⟨k.os,k.tape,k.output,k.size,fun i hi=>k.block i (by omega) (fun e=>by have:=hr i e.symm;omega)⟩
theorem compacted_some {S S':Hp.Hs} {l:List Int} (h:S.compacted=some (l,S')):∃ m S1 M,S.collect=some (m,S1) ∧ S1.moved=some (M,S') ∧ l=told M:=by
 unfold Hp.Hs.compacted at h
 simp only [Option.bind_eq_bind,Option.bind_eq_some_iff] at h
 obtain ⟨⟨m,S1⟩,h1,⟨M,S2⟩,h2,h⟩:=h
 simp only [Option.some.injEq,Prod.mk.injEq] at h
 obtain ⟨rfl,rfl⟩:=h
 exact ⟨m,S1,M,h1,h2,rfl⟩
def CompPost (w:World) (d:Hd) (l:List Int) (S:Hp.Hs) (e:Ending) (w':World):Prop:=
 ∃ g p c,e = .returned (.tuple #[.slice p l.length c,.int .i64 0]) ∧ HAt w' { d with gw:=g,cap:=S.words.length } S ∧ But d.own w w' ∧ w.heap.size ≤ g ∧ SliceAt w' p c l ∧ ∀ b o,p=some ⟨b,o,none⟩ → w.heap.size ≤ b
theorem moves_spec {S:Hp.Hs}:∀ {L:List Nat} {V V':List Int} {next nf:Nat} {M M':List (Nat × Int)},Hp.Hs.moves S L V next M=some (V',nf,M') → V'.length=V.length ∧ ∀ p ∈ M',p ∈ M ∨ (p.1 ∈ L ∧ 0 ≤ p.2 ∧ p.2 ≤ V.length)
 | [],V,V',next,nf,M,M',h=>by
  obtain ⟨rfl,rfl,rfl⟩:V=V' ∧ next=nf ∧ M=M':=by simpa [Hp.Hs.moves] using h
  exact ⟨rfl,fun p hp=>.inl hp⟩
 | a :: r,V,V',next,nf,M,M',h=>by
  obtain ⟨t,k,l,V1,_,_,_,hV,h⟩:=moves_cons h;obtain ⟨h1,h2⟩:=moves_spec h;have h3:=HAt.lay_len hV;refine ⟨h1.trans h3.1,fun p hp=>?_⟩
  rcases h2 p hp with h | ⟨h,h4,h5⟩
  · rcases mem_putI h with rfl | h
    · exact .inr ⟨by simp,by simp,by simp only;omega⟩
    · exact .inl h
  · exact .inr ⟨by simp [h],h4,by rw [h3.1] at h5;exact h5⟩
set_option maxRecDepth 100000 in
set_option maxHeartbeats 16000000 in
theorem Compact_any {w:World} {d:Hd} {S S':Hp.Hs} {l:List Int} (h:HAt w d S) (hr:S.compacted=some (l,S')) :
    Calls Tryz.prog 51 #[.pointer (some ⟨d.hb,0,none⟩)] w (CompPost w d l S'):=by
  obtain ⟨m,S1,M,hc,hm,rfl⟩:=compacted_some hr;have H:=Lib.hid (Now.refl h);have HC:=Lib.hid hc;have HM:=Lib.hid hm;have OWN:=Lib.hid h.own_lt;clear h hr hc hm;go_enter Tryz.func51,Tryz.ntmps51
  go_upto_region 5 with (first
   | (go_at_call 72;refine (isMade_yes H.out.toHAt).mono ?_;rintro e w1 ⟨rfl,hb1⟩;obtain ⟨hc1,hf1,hs1⟩:=hb1.cells)
   | (go_at_call 111;refine (collect_any (H.out.ext hb1).toHAt HC.out).mono ?_;rintro e w2 ⟨rfl,hA2,hB2⟩)
   | (go_at_call 116;refine (move_any hA2 HM.out).mono ?_;rintro e w3 ⟨g,gm,rfl,hA3,hM3,hB3,z1,z2,z3⟩))
  have B3:But d.own w w3:=((But.ofExt hb1).trans hB2).trans hB3;have MS:∀ p ∈ M,p.1 < 1000000 ∧ 0 ≤ p.2 ∧ p.2 ≤ 1000000:=by
   obtain ⟨Wf,nf,Sx,hmv,_⟩:=moved_some HM.out;intro p hp;have hb:=hA2.below;have hs:=hA2.small
   rcases (moves_spec hmv).2 p hp with h | ⟨h1,h2,h3⟩
   · cases h
   · have:=hb _ h1;simp only [List.length_replicate] at h3;omega
  have KX:∀ x ∈ keysI M,x < 1000000:=fun x hx=>by
   obtain ⟨p,hp,rfl⟩:=List.mem_map.1 hx;exact (MS p hp).1
  have KU:=hM3.up;have KL:(keysI M).length=M.length:=by simp [keysI]
  have ML:M.length ≤ 1000000:=by
   rw [← KL];exact sorted_len (keysI_sorted KU) KX
  have zw:w.heap.size ≤ w2.heap.size:=Nat.le_trans hb1.le hB2.size;have MSH:=Lib.hid MS;have A3:=Lib.hid hA3;have M3:=Lib.hid hM3;have BB:=Lib.hid B3;have KUH:=Lib.hid KU;have own3:=Lib.hid hA3.own_lt;have old31:=Lib.hid hA3.old1;have old32:=Lib.hid hA3.old2;have gml:=hM3.lt;clear hA2 hB2 hA3 hM3 hB3 B3 MS H HC HM OWN KU
  go_wp2_with (first
   | (go_at_call 118;refine (keysI_call _ _).mono ?_;rintro e w4 ⟨rfl,rfl⟩)
   | (go_at_call 117;refine (sortedI_call M3.out KX).mono ?_;rintro e w5 ⟨ps,cs,rfl,SS,far5,E5⟩))
  have E35:Ext w3 w5:=Ext.trans (Ext.alloc (Ext.refl _) _) E5;have z5:w3.heap.size ≤ w5.heap.size:=E35.le;have z6:w2.heap.size ≤ w3.heap.size:=by
   have:=own3.out g (by simp [Hd.own]);omega
  have C5:=Lib.hid (show Cp w w5 w5.heap.size d.own { d with gw:=g,cap:=S'.words.length } S' gm M ps cs from
   { at_:=A3.out.ext E35,but:=BB.out.ext E35,moved:=M3.out.ext E35,cells:=SS
     b1:=fun b hb=>by have:=own3.out b hb;omega
     b2:=fun b o e=>by have:=old31.out b o e;omega
     b3:=fun b o e=>by have:=old32.out b o e;omega
     b4:=by omega
     b5:=fun b o e h0=>by
      obtain ⟨b',o',e',hb',_⟩:=SS.cells (by rw [natInts_length,KL];exact h0);rw [e] at e'
      cases e'
      exact hb'
     b6:=by omega
     b7:=Nat.le_refl _ })
  have R5:=Lib.hid (Row.nil w5 w5.heap.size);clear SS far5 E5 E35 A3 M3 BB own3 old31 old32 KX;obtain ⟨B,hB⟩:∃ B,w5.heap.size=B:=⟨_,rfl⟩
  rw [hB] at C5 R5 z5;clear hB
  go_loopg [2,18] M.length (fun g' s i wr=>∃ (j:Nat) (p:Option Addr) (c:Nat) (l:List Int),j ≤ M.length ∧ M.length-j ≤ g' ∧ i = .int .i64 j ∧ s = .slice p l.length c ∧ Hid (l=told (M.take j)) ∧ Hid (Cp w wr B d.own { d with gw:=g,cap:=S'.words.length } S' gm M ps cs) ∧ Hid (Row wr B p c l))
  case atStart=>exact ⟨0,none,0,[],Nat.zero_le _,by omega,rfl,rfl,Lib.hid (by simp [told]),C5,R5⟩
  case round=>
   obtain ⟨j,p,c,l,hj,hg,rfl,rfl,HL,C,R⟩:=hrel;clear C5 R5;have hll:l.length ≤ 2 * M.length:=by
    rw [HL.out];have h1:=told_len (M.take j);have h2:=List.length_take_le j M;omega
   by_cases hlt:j < M.length
   · obtain ⟨q,hq⟩:∃ q,M[j]? = some q:=⟨M[j],List.getElem?_eq_getElem hlt⟩
     have HQ:=Lib.hid hq;obtain ⟨x,v⟩:=q;have hms:=MSH.out (x,v) (List.mem_of_getElem? hq);simp only at hms;have hget:getI x M=some v:=getI_at KUH.out hq;obtain ⟨b,o,hps,hb,hcell⟩:=C.out.cells.cells (by rw [natInts_length,KL];omega);have gx:=hcell j x (natInts_get (by simp [keysI,hq]));have scs:=C.out.cells.le;have scc:=C.out.cells.cap;rw [natInts_length,KL] at scs;have hlk:=C.out.moved.look (t:=119) Tryz.underlying3 Tryz.underlying119 (Tryz.zeroValue3 _) (k:=x) (by omega);rw [hget] at hlk;dsimp only [Option.getD_some] at hlk;have tk:decide ((j:Int) < (M.length:Int))=true:=by simpa using (by omega:(j:Int) < (M.length:Int))
     clear hq hget hcell;subst hps
     by_cases hv:v=(x:Int)
     · have t0:(v != (x:Int))=false:=by simpa using hv
       have HV:=Lib.hid hv;clear hv
       go_wp2_with fail
       go_roundg (M.length-(j+1))
       case measure=>omega
       case rel=>exact ⟨j+1,p,c,l,by omega,Nat.le_refl _,by go_num,rfl,Lib.hid (by rw [told_snoc HQ.out,HL.out];simp [HV.out]),C,R⟩
     · have t0:(v != (x:Int))=true:=by simpa using hv
       have HV:=Lib.hid hv;clear hv;have EA:Ext wr (wr.alloc (.cells #[.int .i64 (x:Int),.int .i64 v] 3)):=Ext.alloc (Ext.refl _) _;have RA:=Lib.hid (R.out.ext EA);have CA:=Lib.hid (C.out.below (Below.mono EA C.out.b7));have b7:=C.out.b7;have hyc:∀ j y,Hp.rd [(x:Int),v] j=some y → (wr.alloc (.cells #[.int .i64 (x:Int),.int .i64 v] 3)).cell? ⟨wr.heap.size,j,none⟩=some (.int .i64 y):=by
        intro j y hj
        match j,hj with
        | 0,hj=>simp [Hp.rd] at hj;subst hj;simp [go_sem]
        | 1,hj=>simp [Hp.rd] at hj;subst hj;simp [go_sem]
        | j+2,hj=>simp [Hp.rd] at hj
       have hyb:∀ y ∈ [(x:Int),v],-9223372036854775808 ≤ y ∧ y ≤ 9223372036854775807:=by
        intro y hy
        rcases List.mem_cons.1 hy with rfl | hy
        · omega
        · have:y=v:=by simpa using hy
          subst this;omega
       have hbl:B ≤ (wr.alloc (.cells #[.int .i64 (x:Int),.int .i64 v] 3)).heap.size:=Nat.le_trans b7 EA.le;have hln:l.length + [(x:Int),v].length < 10000000:=by simp;omega
       have HYC:=Lib.hid hyc;have HYB:=Lib.hid hyb;clear hyc hyb
       go_wp2_with (at_builtin;refine wpList_append_ints rfl _ _ rfl (ys:=[(x:Int),v]) rfl rfl (by simp) RA.out HYC.out HYB.out hln hbl ?_;intro g8 c8 x8 hR8 hG8)
       obtain ⟨row,hgr,hrow⟩:=id hG8;have C8:=Lib.hid (CA.out.below (below_grown hgr hrow hbl))
       go_roundg (M.length-(j+1))
       case measure=>omega
       case rel=>exact ⟨j+1,_,c8,l ++ [(x:Int),v],by omega,Nat.le_refl _,by go_num,by simp,Lib.hid (by rw [told_snoc HQ.out,HL.out];simp [HV.out]),C8,Lib.hid hR8⟩
   · have:j=M.length:=by omega
     subst this
     go_wp2_with fail
     go_returns;have hl:=HL.out;rw [List.take_length] at hl;subst hl;exact ⟨g,p,c,rfl,C.out.at_,C.out.but,by omega,R.out.at_,fun b o e=>Nat.le_trans C.out.b6 (R.out.far e)⟩
open Go.RowKit
namespace Hp
structure Act' where
 kind:Int
 a:Int
 list:List Int
 fault:Int
 n:Int
structure Sc where
 S:Hs
 res:List Int
 ats:List Int
end Hp
structure ScAt (w0 w:World) (sb:Nat) (d:Hd) (s:Hp.Sc) (p1:Option Addr) (k1:Nat) (p2:Option Addr) (k2:Nat):Prop extends HAt w d s.S where
 ext0:Ext w0 w
 h0:w.cell? ⟨sb,0,none⟩=some (.pointer (some ⟨d.hb,0,none⟩))
 h1:w.cell? ⟨sb,1,none⟩=some (.slice p1 s.res.length k1)
 h2:w.cell? ⟨sb,2,none⟩=some (.slice p2 s.ats.length k2)
 fz:∀ k,w.frozen? ⟨sb,k,none⟩=false
 r1:Row w 0 p1 k1 s.res
 r2:Row w 0 p2 k2 s.ats
 sb0:w0.heap.size ≤ sb
 own0:∀ b ∈ d.own,w0.heap.size ≤ b
 sbn:sb ∉ d.own
 n1:∀ b o,p1=some ⟨b,o,none⟩ → w0.heap.size ≤ b ∧ b ∉ d.own ∧ b ≠ sb
 n2:∀ b o,p2=some ⟨b,o,none⟩ → w0.heap.size ≤ b ∧ b ∉ d.own ∧ b ≠ sb
 n12:∀ b o b' o',p1=some ⟨b,o,none⟩ → p2=some ⟨b',o',none⟩ → b ≠ b'
 spn:∀ b o,d.sp=some ⟨b,o,none⟩ → b ≠ sb ∧ (∀ o',p1 ≠ some ⟨b,o',none⟩) ∧ ∀ o',p2 ≠ some ⟨b,o',none⟩
 opn:∀ b o,d.op=some ⟨b,o,none⟩ → b ≠ sb ∧ (∀ o',p1 ≠ some ⟨b,o',none⟩) ∧ ∀ o',p2 ≠ some ⟨b,o',none⟩
theorem Row.but_ {w w':World} {base c:Nat} {p:Option Addr} {l:List Int} (h:Row w base p c l) {bs:List Nat} (k:But bs w w') (hb:∀ b o,p=some ⟨b,o,none⟩ → b ∉ bs):Row w' base p c l:=by
 refine ⟨⟨h.1.1, ?_⟩,h.2⟩
 rcases h.1.2 with e | ⟨g,cap,cur,e,h1,hg,r⟩
 · exact .inl e
 · refine .inr ⟨g,cap,cur,e,h1, ?_,r⟩;have hl:=(Array.getElem?_eq_some_iff.1 hg).1;injection e with e1
   rw [k.block g hl (hb g 0 e1)];exact hg
namespace ScAt
variable {w0 w w':World} {sb:Nat} {d:Hd} {s:Hp.Sc} {p1 p2:Option Addr} {k1 k2:Nat}
theorem lt1 (h:ScAt w0 w sb d s p1 k1 p2 k2):sb < w.heap.size:=cell_lt h.h0
theorem ext (h:ScAt w0 w sb d s p1 k1 p2 k2) (k:Ext w w'):ScAt w0 w' sb d s p1 k1 p2 k2:=
 { h with
   toHAt:=h.toHAt.ext k
   ext0:=h.ext0.trans k
   h0:=(k.cell h.lt1 0).trans h.h0
   h1:=(k.cell h.lt1 1).trans h.h1
   h2:=(k.cell h.lt1 2).trans h.h2
   fz:=fun j=>(k.frozen h.lt1 j).trans (h.fz j)
   r1:=h.r1.ext k
   r2:=h.r2.ext k }
theorem turn (h:ScAt w0 w sb d s p1 k1 p2 k2) {S':Hp.Hs} {g cap:Nat} (k:But d.own w w') (h':HAt w' { d with gw:=g,cap:=cap } S') (hg:g=d.gw ∨ w.heap.size ≤ g):ScAt w0 w' sb { d with gw:=g,cap:=cap } { s with S:=S' } p1 k1 p2 k2:=by
 have hl:=h.lt1
 have hlt:∀ b o,(p1=some ⟨b,o,none⟩ → b < w.heap.size) ∧ (p2=some ⟨b,o,none⟩ → b < w.heap.size):=fun b o=>⟨fun e=>by
  rcases h.r1.1.2 with ⟨e',_⟩ | ⟨g',_,_,e',_,hg',_⟩
  · injection e' with e1
    rw [e] at e1
    cases e1
  · injection e' with e1
    rw [e] at e1
    cases e1
    exact (Array.getElem?_eq_some_iff.1 hg').1,fun e=>by
  rcases h.r2.1.2 with ⟨e',_⟩ | ⟨g',_,_,e',_,hg',_⟩
  · injection e' with e1
    rw [e] at e1
    cases e1
  · injection e' with e1
    rw [e] at e1
    cases e1
    exact (Array.getElem?_eq_some_iff.1 hg').1⟩
 have own:∀ b,b ∈ Hd.own { d with gw:=g,cap:=cap } → b ∈ d.own ∨ b=g:=fun b hb=>by
  simp only [Hd.own,List.mem_cons,List.not_mem_nil,or_false] at hb ⊢
  rcases hb with rfl | rfl | rfl
  · exact .inl (.inl rfl)
  · exact .inr rfl
  · exact .inl (.inr (.inr rfl))
 have fresh:∀ b,b < w.heap.size → b ∉ d.own → b ∉ Hd.own { d with gw:=g,cap:=cap }:=fun b hb hn hm=>by
  rcases own b hm with h1 | rfl
  · exact hn h1
  · rcases hg with rfl | hg
    · exact hn d.gw_own
    · omega
 have e0:=h.ext0.le
 exact
 { toHAt:=h'
   ext0:=But.toExt h.ext0 k h.own0
   h0:=(k.cell hl h.sbn 0).trans h.h0
   h1:=(k.cell hl h.sbn 1).trans h.h1
   h2:=(k.cell hl h.sbn 2).trans h.h2
   fz:=fun j=>(k.frozen hl h.sbn j).trans (h.fz j)
   r1:=h.r1.but_ k (fun b o e=>(h.n1 b o e).2.1)
   r2:=h.r2.but_ k (fun b o e=>(h.n2 b o e).2.1)
   sb0:=h.sb0
   own0:=fun b hb=>by
    rcases own b hb with h1 | rfl
    · exact h.own0 b h1
    · rcases hg with rfl | hg
      · exact h.own0 _ d.gw_own
      · omega
   sbn:=fresh _ hl h.sbn
   n1:=fun b o e=>⟨(h.n1 b o e).1,fresh _ ((hlt b o).1 e) (h.n1 b o e).2.1,(h.n1 b o e).2.2⟩
   n2:=fun b o e=>⟨(h.n2 b o e).1,fresh _ ((hlt b o).2 e) (h.n2 b o e).2.1,(h.n2 b o e).2.2⟩
   n12:=h.n12
   spn:=h.spn
   opn:=h.opn }
end ScAt
open Go.RowKit
theorem Ext.grown {w0 w w':World} {row:Option Nat} (h:Ext w0 w) (k:w.grownBy w' row) (hr:∀ r,row=some r → w0.heap.size ≤ r):Ext w0 w':=
 ⟨k.os.trans h.os,k.tape.trans h.tape,k.output.trans h.output,Nat.le_trans h.le k.size,fun i hi=>(k.block i (Nat.lt_of_lt_of_le hi h.le) (fun e=>by have:=hr i e.symm;omega)).trans (h.block i hi)⟩
open Go.RowKit Go.Maps
theorem Row.set {w:World} {base c b j:Nat} {p:Option Addr} {l l':List Int} {v:Int} (h:Row w base p c l) (hp:p=some ⟨b,0,none⟩) (hw:Hp.wr l j v=some l') (h1 : -9223372036854775808 ≤ v) (h2:v ≤ 9223372036854775807) :
    Row (w.setCell ⟨b,j,none⟩ (.int .i64 v)) base p c l':=by
  have hl:=(HAt.wr_len hw).1;have hj:=(HAt.wr_len hw).2;unfold Hp.wr at hw;rw [if_pos hj] at hw
  cases hw
  refine ⟨⟨by simp [ints], ?_⟩,fun x hx=>?_⟩
  · rcases h.1.2 with ⟨e,_⟩ | ⟨g,cap,cur,e,hb,hg,r1,r2,r3,r4⟩
    · injection e with e1
      rw [hp] at e1
      cases e1
    · injection e with e1 e2 e3
      rw [hp] at e1
      cases e1
      subst e3;refine .inr ⟨b,c,cur.setIfInBounds j (.int .i64 v),by rw [hp,hl],hb, ?_,by rw [hl];exact r1,r2,by simpa using r3, ?_⟩
      · rw [setCell_eq_setRow w b j cur _ _ _ hg,setRow_heap w b _ _ _ _ hg]
      · rw [hl];simp only [Array.toList_setIfInBounds,ints,List.map_set,List.take_set];rw [r4];rfl
  · rcases List.mem_or_eq_of_mem_set hx with hx | rfl
    · exact h.2 x hx
    · exact ⟨h1,h2⟩
theorem ScAt.cut {w0 W:World} {sb:Nat} {d:Hd} {s:Hp.Sc} {p1 p2:Option Addr} {k1 k2:Nat} {P:Program} {cd:Code} {Q:Exit → Act → World → Prop} {a:Act} (h:ScAt w0 W sb d s p1 k1 p2 k2) (k:∀ w',ScAt w0 w' sb d s p1 k1 p2 k2 → cd.wp P Q a w'):cd.wp P Q a W:=k W h
end Go.Proofs.YtdokmmhjmclmnaaGreat
