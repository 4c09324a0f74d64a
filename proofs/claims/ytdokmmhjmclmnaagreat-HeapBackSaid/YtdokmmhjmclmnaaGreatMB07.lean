/-
  Part 7 of a proof: HMoveM HMap3 HRange HFn29 HFn30.
-/
import Derived.OwnWalkIn
import Derived.RangeFuncBound
import Derived.RangeFuncCalls
import Derived.RangeFuncLeaves
import Derived.RangeFuncNested
import Derived.Shelf.RegionOpen
import Derived.TacticsInMore
import Derived.Test.YtdokmmhjmclmnaaGreatMB01
import Derived.Test.YtdokmmhjmclmnaaGreatMB02
import Derived.Test.YtdokmmhjmclmnaaGreatMB06
set_option linter.unusedSimpArgs false
set_option linter.unusedVariables false
set_option linter.unusedSectionVars false
set_option linter.unnecessarySimpa false
namespace Go.Proofs.YtdokmmhjmclmnaaGreat
namespace Hp.Hs
def moves (S:Hs):List Nat → List Int → Nat → List (Nat × Int) → Option (List Int × Nat × List (Nat × Int))
 | [],W,next,M=>some (W,next,M)
 | a :: r,W,next,M=>do
  let wide ← S.wideAt a
  let W ← lay W next (← sub S.words a wide)
  moves S r W (next+wide) (putI a (next:Int) M)
def rekid (S:Hs) (M:List (Nat × Int)) (tt:Nat):Nat → Nat → List Int → Option (List Int)
 | 0,_,W=>some W
 | n+1,j,W=>do
  let k ← ra W (tt+4+j)
  let ks ← Hs.kids { S with words:=W } tt
  if j < ks.length then rekid S M tt n (j+1) (← wr W (tt+4+j) ((getI k M).getD 0)) else none
def rechain (M:List (Nat × Int)):Hs → List Nat → Option Hs
 | S,[]=>some S
 | S,a :: r=>do
  let tt ← adr ((getI a M).getD 0)
  if S.words.length ≤ tt then none else
  let S:={ S with taken:=insert tt S.taken }
  let W ← rekid S M tt (← S.kids tt).length 0 S.words
  let S:={ S with words:=W }
  let head ← chain (← S.tag tt) (← S.fields tt)
  let x ← rd S.words head
  let W ← wr (← wr S.words (tt+3) x) head tt
  rechain M { S with words:=W } r
def moved (S:Hs):Option (List (Nat × Int) × Hs):=do
 let (W,next,M) ← moves S S.taken (List.replicate S.words.length 0) 17 []
 let S1 ← rechain M { S with words:=W,taken:=[] } S.taken
 if next < W.length then
  return (M,{ S1 with words:=(← wr (← wr S1.words 16 next) (next+1) (W.length-next)) })
 else some (M,S1)
end Hp.Hs
open Go.RowKit Go.Maps Go.WideElems Go.ChangeMaps
namespace MapAt
variable {P:Program} {w:World} {g:Nat} {T:List Nat} {t:TypeId}
theorem clear (h:MapAt P w g T) (ht:P.underlying t=some (.map 3 4)) (ty:TypeId) :
    ∃ w',(Builtin.clear_ #[t] ty #[.map (some g)]).run P w = .ok (.tuple #[]) w' ∧ MapAt P w' g [] ∧ w.mapTurned w' g:=by
  obtain ⟨es,clock,hb,F,hs,hD⟩:=h.owns;refine ⟨setBlock w g (.map #[] clock), ?_,⟨⟨#[],clock,heap_setBlock_same hb _,⟨by simp,MapKept.stamped_empty _,by simp⟩,by simp,by simp [mapOf]⟩,List.Pairwise.nil⟩,⟨es,clock,#[],clock,hb,rfl⟩⟩;simp [Builtin.clear_,run_underlying ht,MapKept.run_getObj_map hb,MapKept.run_setObj_map _ hb,Result.andThen,setBlock]
end MapAt
open Go.RowKit
def Gives {α:Type} (F:Fence) (n:Nat) (P:Program) (g:Nat) (first:Array Value) (encs:α → Array Value) (K:World → Prop) (L:List α):Prop:=
 ∀ (l:Nat) (J:List α → World → Prop) (W:World),(∀ pre W1,J pre W1 → K W1) → (∀ pre W1 W2,J pre W1 → Ext W1 W2 → J pre W2) →
  (∀ pre x r W1,L=pre ++ x :: r → J pre W1 → YieldAt F (n-1) P l (encs x) W1 fun e W'=>e = .returned (.bool true) ∧ J (pre ++ [x]) W') → J [] W →
  CallsIn F n P g (first ++ #[.func (.yield l) #[] #[]]) W fun e W'=>(∃ v,e = .returned v) ∧ J L W'
structure Rest (B:Nat) (W W':World):Prop where
 size:W.heap.size ≤ W'.heap.size
 same:∀ k,B ≤ k → k < W.heap.size → W'.heap[k]? = W.heap[k]?
theorem Rest.refl (B:Nat) (W:World):Rest B W W:=⟨Nat.le_refl _,fun _ _ _=>rfl⟩
theorem Rest.trans {B:Nat} {a b c:World} (h:Rest B a b) (k:Rest B b c):Rest B a c:=
 ⟨Nat.le_trans h.size k.size,fun i hi hl=>(k.same i hi (Nat.lt_of_lt_of_le hl h.size)).trans (h.same i hi hl)⟩
theorem Rest.ext {B:Nat} {a b c:World} (h:Rest B a b) (k:Ext b c):Rest B a c:=h.trans ⟨k.le,fun i _ hl=>k.block i hl⟩
theorem Rest.setCell {B:Nat} {a b:World} (h:Rest B a b) {p:Addr} (hp:p.block < B) (v:Value):Rest B a (b.setCell p v):=
 ⟨by simpa [World.setCell] using h.size,fun k hk hl=>by rw [Below.heap_setCell _ _ _ _ (by omega)];exact h.same k hk hl⟩
theorem below_putObj {B:Nat} {W:World} {b:Nat} (o:Obj) (hb:B ≤ b):Below B W (W.putObj b o):=
 ⟨rfl,rfl,rfl,by simp,fun k hk=>World.putObj_heap_other (by omega)⟩
variable {F:Fence} {n:Nat} {P:Program}
theorem wpIn_bound {α:Type} {g:Operand} {ps:Array Tmp} {assign body:Code} {Q:Exit → Act → World → Prop} {a:Act} {w:World}
    (hro:F.round=none) (h1:1 ≤ n) {gf:Nat} {first:Array Value} (hg:a.eval g = .func (.func gf) first #[]) (hFg:F.fn gf) (eg:∀ args w,(callFunc gf args).run P w = .ok (.enter gf args) w)
    {encs:α → Array Value} {K:World → Prop} {L:List α} (hseq:Gives F (n-1) P gf first encs K L) (hps:∀ x,(encs x).size=ps.size)
    (I:List α → World → Prop) (hI:∀ pre W W',I pre W → w.heap.size ≤ W.heap.size → Below w.heap.size W W' → I pre W') (hK:∀ pre W,I pre W → K W) (h0:I [] w) (a₁:α → Act)
    (hassign:∀ (l:Nat) (x:α) (W:World) (G:Act → World → Prop),G (a₁ x) W →
     assign.wpIn (F.inRound l) (n-1-1) P (Exit.then G (fun _ _ _=>False)) { tmps:=(ps.zip (encs x)).foldl (fun t (p,v)=>t.setIfInBounds p v) a.tmps,defers:=[] } W)
    (hbody:∀ (l:Nat) (pre:List α) (x:α) (r:List α) (W:World),L=pre ++ x :: r → I pre W → w.heap.size ≤ W.heap.size →
     body.wpIn (F.inRound l) (n-1-1) P (fun e _ W'=>e = .normal ∧ Rest w.heap.size W W' ∧ I (pre ++ [x]) W') (a₁ x) W)
    (hdone:∀ (W:World),I L W → w.heap.size ≤ W.heap.size → W.heap[w.heap.size]? = some (.deferred (some [])) → Q .normal { a with defers:={ target:=.collected w.heap.size,args:=#[] } :: a.defers } W) :
    (Code.rangeFunc g ps assign body).wpIn F n P Q a w:=by
  refine wpIn_rangeFunc fun fn hfn=>?_
  rw [hro];obtain ⟨rec,hrec⟩:∃ rec:LoopState → Option Code → Loop,rec=fun st pe=>{ state:=st,pending:=pe,fn,tmps:=a.tmps,params:=ps,assign,body,defers:=w.heap.size }:=⟨_,rfl⟩
  obtain ⟨W1,hW1⟩:∃ W1,(w.alloc (.deferred (some []))).alloc (.loop (rec .ready none))=W1:=⟨_,rfl⟩
  have hE1:Below w.heap.size w W1:=by
   rw [← hW1];exact ((Below.refl _ w).alloc (Nat.le_refl _) _).alloc (by simp) _
  have hz1:W1.heap.size=w.heap.size+2:=by rw [← hW1];simp
  have hL1:W1.heap[w.heap.size+1]? = some (.loop (rec .ready none)):=by
   rw [← hW1];have:=World.alloc_heap_new (w.alloc (.deferred (some []))) (.loop (rec .ready none))
   rwa [World.size_alloc] at this
  have hK1:W1.heap[w.heap.size]? = some (.deferred (some [])):=by
   rw [← hW1];exact (Below.heap_alloc _ _ _ (by simp)).trans (World.alloc_heap_new w _)
  refine ⟨w.heap.size+1,[{ target:=.collected w.heap.size,args:=#[] }],W1,{ target:=.fn (.func gf) #[],args:=first ++ #[.func (.yield (w.heap.size+1)) #[] #[]] },W1,gf,
   first ++ #[.func (.yield (w.heap.size+1)) #[] #[]],W1, ?_, ?_, ?_, ?_,fun _=>h1, ?_⟩
  · rw [← hW1,hrec];exact run_enterLoop_outer _ _ _ _ _
  · simp only [resolve,hg];simp [go_sem]
  · intro f' hf';simp [Target.leads] at hf';subst hf';exact hFg
  · simp [invoke,go_sem,eg]
  · refine (hseq (w.heap.size+1)
      (fun pre W=>I pre W ∧ w.heap.size+2 ≤ W.heap.size ∧ W.heap[w.heap.size+1]? = some (.loop (rec .ready none)) ∧ W.heap[w.heap.size]? = some (.deferred (some []))) W1
      (fun pre W h=>hK pre W h.1)
      (fun pre A B h k=>⟨hI pre A B h.1 (by omega) (Below.mono k (by omega)),Nat.le_trans h.2.1 k.le,(k.block _ (by omega)).trans h.2.2.1,(k.block _ (by omega)).trans h.2.2.2⟩)
      ?_ ⟨hI _ _ _ h0 (Nat.le_refl _) hE1,by omega,hL1,hK1⟩).mono ?_
    · rintro pre x r W hLx ⟨hi,hsz,hl,hk⟩;have hy:=run_yield (P:=P) (args:=encs x) hl (by rw [hrec];exact hps x);rw [hrec] at hy;refine ⟨fn,_,assign,body,hy,roundIn_of_wpIn hfn (hassign _ x W _ ⟨_,run_beginRound hl (by rw [hrec]), ?_⟩)⟩;have hl2:(W.putObj (w.heap.size+1) (.loop { rec .ready none with state:=.busy })).heap[w.heap.size+1]? = some (.loop { rec .ready none with state:=.busy }):=World.putObj_heap_same (by omega);have hk2:(W.putObj (w.heap.size+1) (.loop { rec .ready none with state:=.busy })).heap[w.heap.size]? = some (.deferred (some [])):=(World.putObj_heap_other (by omega)).trans hk;refine wpIn_mono (hbody _ pre x r _ hLx (hI _ _ _ hi (by omega) (below_putObj _ (by omega))) (by simp;omega)) ?_;rintro e a3 W3 ⟨rfl,hr3,hi3⟩;have hs3:=hr3.size;simp only [World.putObj_size] at hs3;have hl3:=(hr3.same (w.heap.size+1) (by omega) (by simp;omega)).trans hl2;have hk3:=(hr3.same w.heap.size (by omega) (by simp;omega)).trans hk2;have hend:=run_endRound (P:=P) none hl3;simp only [Option.isNone_none,if_true] at hend;refine ⟨_,_,hend,rfl,hI _ _ _ hi3 (by omega) (below_putObj (b:=w.heap.size+1) _ (by omega)), ?_, ?_, ?_⟩
      · simp only [World.putObj_size];omega
      · have:=World.putObj_heap_same (w:=W3) (r:=w.heap.size+1) (o:=.loop (rec .ready none)) (by omega);rw [hrec] at this ⊢;exact this
      · exact (World.putObj_heap_other (w:=W3) (r:=w.heap.size+1) (k:=w.heap.size) (by omega)).trans hk3
    · rintro e W2 ⟨⟨v,rfl⟩,hi,hsz,hl,hk⟩;have hend:=run_endLoop (P:=P) hl (by rw [hrec];simp);rw [hrec] at hend;exact ⟨none,_,hend,hdone _ (hI _ _ _ hi (by omega) (below_putObj _ (by omega))) (by simp;omega) ((World.putObj_heap_other (by omega)).trans hk)⟩
def Hp.Hs.piecesFrom (S:Hp.Hs):Nat → Nat → Option (List (Nat × Nat))
 | 0,_=>none
 | n+1,a=>do
  if S.words.length ≤ a then some [] else
  let w0 ← Hp.rd S.words (a+1)
  let t ← S.tag a
  let k ← (if t=0 then Hp.adr w0 else Hp.wide S.sizes t:Option Nat)
  if 1000000 < k then none else
  let r ← S.piecesFrom n (a+k)
  some ((a,k) :: r)
theorem piecesFrom_succ {S:Hp.Hs} {n a:Nat} {L:List (Nat × Nat)} (h:S.piecesFrom n a=some L) :
    (S.words.length ≤ a ∧ L=[]) ∨ (a < S.words.length ∧ ∃ n' x t k r,n=n'+1 ∧ Hp.rd S.words (a+1)=some x ∧ S.tag a=some t ∧ ((t ≠ 0 ∧ Hp.wide S.sizes t=some k) ∨ (t=0 ∧ x=(k:Int))) ∧ k ≤ 1000000 ∧ L=(a,k) :: r ∧ S.piecesFrom n' (a+k)=some r):=by
  cases n with
  | zero=>simp [Hp.Hs.piecesFrom] at h
  | succ n=>
   unfold Hp.Hs.piecesFrom at h
   split at h
   · rename_i hge;exact .inl ⟨hge,by simpa using h.symm⟩
   · rename_i hlt;simp only [Option.bind_eq_bind,Option.bind_eq_some_iff] at h;obtain ⟨x,hx,t,ht,k,hk,h⟩:=h
     split at h
     · cases h
     · rename_i hkl;simp only [Option.bind_eq_some_iff,Option.some.injEq] at h;obtain ⟨r,hr,rfl⟩:=h;refine .inr ⟨by omega,n,x,t,k,r,rfl,hx,ht, ?_,by omega,rfl,hr⟩
       split at hk
       · rename_i h0;exact .inr ⟨h0,adr_some hk⟩
       · rename_i h0;exact .inl ⟨h0,hk⟩
theorem pieces_len {S:Hp.Hs}:∀ {n a:Nat} {L:List (Nat × Nat)},S.piecesFrom n a=some L → L.length ≤ n
 | 0,a,L,h=>by simp [Hp.Hs.piecesFrom] at h
 | n+1,a,L,h=>by
  rcases piecesFrom_succ h with ⟨_,rfl⟩ | ⟨_,n',x,t,k,r,hn,_,_,_,_,rfl,hr⟩
  · simp
  · obtain rfl:n=n':=by omega
    have:=pieces_len hr;simp;omega
theorem take_snocC {α:Type} {L r:List α} {j:Nat} {x:α} (h:L.drop j=x :: r):L.take (j+1)=L.take j ++ [x]:=by
 have hl:j < L.length:=by
  have:=congrArg List.length h;simp at this;omega
 rw [List.take_succ_eq_append_getElem hl]
 rw [List.drop_eq_getElem_cons hl] at h
 rw [(List.cons.inj h).1]
theorem drop_snocC {α:Type} {L r:List α} {j:Nat} {x:α} (h:L.drop j=x :: r):L.drop (j+1)=r:=by
 rw [← List.drop_drop,h]
 rfl
def encC (x:Nat × Nat):Array Value:=#[.int .i64 (x.1:Int),.int .i64 (x.2:Int)]
set_option maxRecDepth 100000 in
set_option maxHeartbeats 8000000 in
theorem cells_gives {d:Hd} {S:Hp.Hs} {L:List (Nat × Nat)} (hr:S.piecesFrom S.fuel 17=some L) :
    Gives Fence.wide 4 Tryz.prog 75 #[.pointer (some ⟨d.hb,0,none⟩)] encC (fun W=>HAt W d S) L:=by
  intro l J W hK hE hY h0;refine callsIn_wide.2 ?_;have H:=Lib.hid (hK _ _ h0);have KK:=Lib.hid hK;have EE:=Lib.hid hE;have YY:=Lib.hid hY;have J0:=Lib.hid h0;have HR:=Lib.hid (show S.piecesFrom S.fuel 17=some (L.drop 0) from hr);have sm:=H.out.small;obtain ⟨n,hn⟩:∃ n,S.words.length=n:=⟨_,rfl⟩
  have EN:=Lib.hid hn;rw [hn] at sm;clear hK hE hY h0 hr hn;show Calls Tryz.prog 75 #[.pointer (some ⟨d.hb,0,none⟩),.func (.yield l) #[] #[]] W _;go_enter Tryz.func75,Tryz.ntmps75
  go_wp2_with fail
  go_loopg [4] (L.length+1) (fun g i wr=>∃ (j a m:Nat),j ≤ L.length ∧ L.length-j+1 ≤ g ∧ i = .int .i64 a ∧ a ≤ 2000000 ∧ Hid (J (L.take j) wr) ∧ Hid (S.piecesFrom m a=some (L.drop j)))
  case atStart=>exact ⟨0,17,S.fuel,by omega,by omega,rfl,by omega,J0,HR⟩
  case round=>
   obtain ⟨j,a,m,hj,hg,rfl,ha,JJ,HC⟩:=hrel;clear J0 HR H;have H:=Lib.hid (KK.out _ _ JJ.out);have c2:=H.out.c2;rw [EN.out] at c2;have hle:=H.out.le;have hcap:=H.out.cap;rw [EN.out] at hle
   rcases piecesFrom_succ HC.out with ⟨hge,hnil⟩ | ⟨hlt,m',y,t,k,r,-,hy,ht,hk,hkl,hcons,hrest⟩
   · rw [EN.out] at hge;have hjl:L.take j=L:=List.take_of_length_le (by simpa using hnil);have JL:=Lib.hid (hjl ▸ JJ.out)
     go_wp2_with fail
     go_returns;exact ⟨⟨_,rfl⟩,JL.out⟩
   · rw [EN.out] at hlt;have hyl:=rd_lt hy;rw [EN.out] at hyl;have gy:=H.out.words.get hy;have HT:=Lib.hid ht;have HCONS:=Lib.hid hcons;have HREST:=Lib.hid hrest;have c0:=H.out.c0;have c1:=H.out.c1;have z1:=H.out.lt;have hjl:j < L.length:=by
      have:=congrArg List.length hcons;simp at this;omega
     have tk:decide ((a:Int) < (n:Int))=true:=by simpa using (by omega:(a:Int) < (n:Int))
     clear hy ht hcons hrest HC
     rcases hk with ⟨h0,hk⟩ | ⟨rfl,rfl⟩
     · have HK:=Lib.hid hk;have t0:(t != 0)=true:=by simpa using h0
       clear hk h0;go_upto_region 4 with (go_at_call 76;refine (tag_any H.out.c2 rfl H.out.le H.out.cap H.out.words HT.out).mono ?_;rintro e w1 ⟨rfl,hb1⟩;obtain ⟨hc1,hf1,hs1⟩:=hb1.cells)
       clear c2 gy tk;have H1:=Lib.hid (H.out.ext hb1);have J1:=Lib.hid (EE.out _ _ _ JJ.out hb1);have c0:=H1.out.c0;have c1:=H1.out.c1;have z1:=H1.out.lt;have PR17:=Lib.hid (fun (ww:World) (hSw:Ext w1 ww)=>And.intro ((hSw.cell z1 0).trans c0) ((hSw.cell z1 1).trans c1));refine wp_region_seq (S:=fun W=>Ext w1 W) (R:=Ext) (by kernel_rfl) Ext.refl ?_ ?_
       · exact exx
       refine' tkL 0 rfl ?h0_1 ?_
       case h0_1=>(intro w q;obtain ⟨c0',c1'⟩:=PR17.out w q;go_simp;try with_reducible rfl)
       refine layy ?_;refine' tkL 1 rfl ?h1_2 ?_
       case h1_2=>(intro w q;obtain ⟨c0',c1'⟩:=PR17.out w q;go_simp;try with_reducible rfl)
       refine layy ?_;refine' tkL 2 rfl ?h2_3 ?_
       case h2_3=>(intro w q;obtain ⟨c0',c1'⟩:=PR17.out w q;go_simp;try with_reducible rfl)
       refine layy ?_;refine' tkL 3 rfl ?h3_4 ?_
       case h3_4=>(intro w q;obtain ⟨c0',c1'⟩:=PR17.out w q;go_simp;try with_reducible rfl)
       refine layy ?_;refine' tkL 4 rfl ?h4_5 ?_
       case h4_5=>(intro w q;obtain ⟨c0',c1'⟩:=PR17.out w q;go_simp;try with_reducible rfl)
       refine layy ?_;refine' tkL 5 rfl ?h5_6 ?_
       case h5_6=>(intro w q;obtain ⟨c0',c1'⟩:=PR17.out w q;go_simp;try with_reducible rfl)
       refine layy ?_;refine' tkR 6 (v:=.int .i64 t) rfl (Or.inr ⟨by rfl,76,_, ?hx6_7, ?hy6_7⟩) ?rest6_7
       case hx6_7=>(intro w hSw;go_simp;try with_reducible rfl)
       case hy6_7=>exact fun w hE=>(tag_any (H1.out.ext hE).c2 rfl H1.out.le H1.out.cap (H1.out.ext hE).words HT.out).mono (fun _ _ h=>⟨h.1,h.2,Ext.trans hE h.2⟩)
       refine layy ?_;refine' tkR 7 (v:=.int .i64 k) rfl (Or.inr ⟨by rfl,123,_, ?hx7_8, ?hy7_8⟩) ?rest7_8
       case hx7_8=>(intro w hSw;go_simp;try with_reducible rfl)
       case hy7_8=>exact fun w hE=>(wide_any (H1.out.ext hE).sizes HK.out (by omega)).mono (fun _ _ h=>⟨h.1,h.2,Ext.trans hE h.2⟩)
       refine layy ?_;refine' tkL 8 rfl ?h8_9 ?_
       case h8_9=>(intro w q;obtain ⟨c0',c1'⟩:=PR17.out w q;go_simp;try with_reducible rfl)
       refine layy ?_;refine wpAnyR_done (by kernel_rfl) ?_ _;intro x1 _ Ex1;have J2:=Lib.hid (EE.out _ _ _ J1.out Ex1);obtain ⟨fn,tmps,assign,body,hy,hR⟩:=YY.out (L.take j) (a,k) r x1 (by rw [← HCONS.out,List.take_append_drop]) J2.out;dsimp only [encC] at hy;go_upto_region 5 with (fail)
       refine (wpIn_wide (n:=4)).1 ?_
       gi_wp2
       refine hR.mono ?_;rintro e w3 ⟨rfl,J3⟩
       gi_wp2
       go_wp2_with fail
       go_roundg (L.length-(j+1)+1)
       case measure=>omega
       case rel=>exact ⟨j+1,a+k,m',by omega,Nat.le_refl _,by go_num,by omega,Lib.hid (by rw [take_snocC HCONS.out];exact J3),Lib.hid (by rw [drop_snocC HCONS.out];exact HREST.out)⟩
     · have tk0:((0:Int) != 0)=false:=rfl;go_upto_region 5 with (go_at_call 76;refine (tag_any H.out.c2 rfl H.out.le H.out.cap H.out.words HT.out).mono ?_;rintro e w1 ⟨rfl,hb1⟩;obtain ⟨hc1,hf1,hs1⟩:=hb1.cells)
       clear c2 gy tk;have J2:=Lib.hid (EE.out _ _ _ JJ.out hb1);obtain ⟨fn,tmps,assign,body,hy,hR⟩:=YY.out (L.take j) (a,k) r w1 (by rw [← HCONS.out,List.take_append_drop]) J2.out;dsimp only [encC] at hy;refine (wpIn_wide (n:=4)).1 ?_
       gi_wp2
       refine hR.mono ?_;rintro e w3 ⟨rfl,J3⟩
       gi_wp2
       go_wp2_with fail
       go_roundg (L.length-(j+1)+1)
       case measure=>omega
       case rel=>exact ⟨j+1,a+k,m',by omega,Nat.le_refl _,by go_num,by omega,Lib.hid (by rw [take_snocC HCONS.out];exact J3),Lib.hid (by rw [drop_snocC HCONS.out];exact HREST.out)⟩
open Go.RowKit Go.Maps
attribute [local go_sem] Oper.semAt_some
def Hp.Hs.gapSums (S:Hp.Hs) (L:List (Nat × Nat)):Nat × Nat:=L.foldl (fun q x=>if S.tag x.1=some 0 then (q.1+x.2,max q.2 x.2) else q) (0,0)
theorem setCell_again {a w:World} {p:Addr} {u:Value} (h:∀ k:Nat,w.heap[k]? = a.heap[k]?) (hc:a.cell? p=some u):∀ k:Nat,(w.setCell p u).heap[k]? = a.heap[k]? :=
 fun k=>(setCell_same_block (by rw [World.cell?_of_block (h _)];exact hc) k).trans (h k)
theorem gapSums_snoc (S:Hp.Hs) (L:List (Nat × Nat)) (x:Nat × Nat):S.gapSums (L ++ [x])=if S.tag x.1=some 0 then ((S.gapSums L).1+x.2,max (S.gapSums L).2 x.2) else S.gapSums L:=by
 simp [Hp.Hs.gapSums,List.foldl_append]
theorem pieces_tag {S:Hp.Hs}:∀ {n a:Nat} {L:List (Nat × Nat)},S.piecesFrom n a=some L → ∀ x ∈ L,(∃ t,S.tag x.1=some t) ∧ x.2 ≤ 1000000
 | 0,a,L,h=>by simp [Hp.Hs.piecesFrom] at h
 | n+1,a,L,h=>by
  rcases piecesFrom_succ h with ⟨_,rfl⟩ | ⟨_,n',x,t,k,r,hn,_,ht,_,hk,rfl,hr⟩
  · simp
  · intro y hy
    rcases List.mem_cons.1 hy with rfl | hy
    · exact ⟨⟨t,ht⟩,hk⟩
    · exact pieces_tag hr y hy
theorem gapSums_small {S:Hp.Hs}:∀ (r pre:List (Nat × Nat)),(∀ x ∈ pre ++ r,x.2 ≤ 1000000) → (S.gapSums pre).1 ≤ 1000000 * pre.length → (S.gapSums pre).2 ≤ 1000000 → (S.gapSums (pre ++ r)).1 ≤ 1000000 * (pre ++ r).length ∧ (S.gapSums (pre ++ r)).2 ≤ 1000000
 | [],pre,_,h1,h2=>by simpa using ⟨h1,h2⟩
 | x :: r,pre,h,h1,h2=>by
  have hx:=h x (by simp)
  have:=gapSums_small (S:=S) r (pre ++ [x]) (fun y hy=>h y (by simpa using hy)) (by
   rw [gapSums_snoc,List.length_append,List.length_singleton]
   split
   · show (S.gapSums pre).1+x.2 ≤ _;omega
   · omega) (by
   rw [gapSums_snoc]
   split
   · show max (S.gapSums pre).2 x.2 ≤ _;omega
   · exact h2)
  rw [show pre ++ x :: r=(pre ++ [x]) ++ r by simp];exact this
theorem sums_small {S:Hp.Hs} {L:List (Nat × Nat)} (h:∀ x ∈ L,x.2 ≤ 1000000):(S.gapSums L).1 ≤ 1000000 * L.length ∧ (S.gapSums L).2 ≤ 1000000:=by
 simpa using gapSums_small (S:=S) L [] (by simpa using h) (by simp [Hp.Hs.gapSums]) (by simp [Hp.Hs.gapSums])
theorem HAt.below_ {w w':World} {d:Hd} {S:Hp.Hs} {B:Nat} (h:HAt w d S) (k:Below B w w') (ho:∀ b ∈ d.own,b < B) (h1:∀ b o,d.sp=some ⟨b,o,none⟩ → b < B) (h2:∀ b o,d.op=some ⟨b,o,none⟩ → b < B):HAt w' d S:=by
 have kb:But (List.range' B (w.heap.size-B)) w w':=⟨k.os,k.tape,k.output,k.size,fun i hi hn=>k.block i (by
  rcases Nat.lt_or_ge i B with h | h
  · exact h
  · exact absurd (List.mem_range'_1.2 ⟨h,by omega⟩) hn)⟩
 have key:∀ b,b < B → b ∉ List.range' B (w.heap.size-B):=fun b hb hm=>by
  have:=(List.mem_range'_1.1 hm).1;omega
 exact h.but kb (key _ (ho _ d.hb_own)) (key _ (ho _ d.gw_own)) (key _ (ho _ d.gm_own)) (fun b o e=>key _ (h1 b o e)) (fun b o e=>key _ (h2 b o e))
structure StatsI (w0:World) (d:Hd) (S:Hp.Hs) (B n m:Nat) (pre:List (Nat × Nat)) (W:World):Prop where
 at_:HAt W d S
 ext:Ext w0 W
 box:W.cell? ⟨B,0,none⟩=some (.pointer (some ⟨d.hb,0,none⟩))
 s0:W.cell? ⟨B+1,0,none⟩=some (.int .i64 n)
 s1:W.cell? ⟨B+1,1,none⟩=some (.int .i64 m)
 s2:W.cell? ⟨B+1,2,none⟩=some (.int .i64 (S.gapSums pre).1)
 s3:W.cell? ⟨B+1,3,none⟩=some (.int .i64 (S.gapSums pre).2)
 fz:∀ k,W.frozen? ⟨B+1,k,none⟩=false
theorem Ext.trans' {a b c:World} {B:Nat} (h:Ext a b) (k:Below B b c) (hB:a.heap.size ≤ B):Ext a c:=Below.trans h (Below.mono k hB)
namespace StatsI
variable {w0 W W':World} {d:Hd} {S:Hp.Hs} {B n m:Nat} {pre:List (Nat × Nat)}
theorem ext_ (h:StatsI w0 d S B n m pre W) (k:Ext W W'):StatsI w0 d S B n m pre W':=
 have z0:=cell_lt h.box
 have z1:=cell_lt h.s0
 { at_:=h.at_.ext k,ext:=h.ext.trans k,box:=(k.cell z0 0).trans h.box,s0:=(k.cell z1 0).trans h.s0,s1:=(k.cell z1 1).trans h.s1,s2:=(k.cell z1 2).trans h.s2,s3:=(k.cell z1 3).trans h.s3,fz:=fun j=>(k.frozen z1 j).trans (h.fz j) }
theorem skip (h:StatsI w0 d S B n m pre W) {a k:Nat} {t:Int} (ht:S.tag a=some t) (h0:¬ t=0):StatsI w0 d S B n m (pre ++ [(a,k)]) W:=by
 have e:S.gapSums (pre ++ [(a,k)])=S.gapSums pre:=by
  rw [gapSums_snoc,if_neg];rw [ht]
  simpa using h0
 exact { at_:=h.at_,ext:=h.ext,box:=h.box,s0:=h.s0,s1:=h.s1,s2:=by rw [e];exact h.s2,s3:=by rw [e];exact h.s3,fz:=h.fz }
theorem step (h:StatsI w0 d S w0.heap.size n m pre W) {a k x y:Nat} (ht:S.tag a=some 0) (hx:(S.gapSums pre).1=x) (hy:(S.gapSums pre).2=y) (own0:∀ b ∈ d.own,b < w0.heap.size) (h1:∀ b o,d.sp=some ⟨b,o,none⟩ → b < w0.heap.size) (h2:∀ b o,d.op=some ⟨b,o,none⟩ → b < w0.heap.size) :
    StatsI w0 d S w0.heap.size n m (pre ++ [(a,k)]) ((W.setCell ⟨w0.heap.size+1,2,none⟩ (.int .i64 ((x:Int)+(k:Int)))).setCell ⟨w0.heap.size+1,3,none⟩ (.int .i64 (max (y:Int) (k:Int)))):=by
  have e:S.gapSums (pre ++ [(a,k)])=(x+k,max y k):=by
   rw [gapSums_snoc,if_pos ht,hx,hy]
  have kb:But [w0.heap.size+1] W ((W.setCell ⟨w0.heap.size+1,2,none⟩ (.int .i64 ((x:Int)+(k:Int)))).setCell ⟨w0.heap.size+1,3,none⟩ (.int .i64 (max (y:Int) (k:Int)))):=((But.refl _ _).setCell (.inl (by simp)) _).setCell (.inl (by simp)) _;have o1:=own0 _ d.hb_own;have o2:=own0 _ d.gw_own;have o3:=own0 _ d.gm_own;exact
  { at_:=h.at_.but kb (by simp;omega) (by simp;omega) (by simp;omega) (fun b o e=>by have:=h1 b o e;simp;omega) (fun b o e=>by have:=h2 b o e;simp;omega)
    ext:=Ext.setCell (Ext.setCell h.ext (by simp) _) (by simp) _
    box:=by simpa [go_sem] using h.box
    s0:=by simpa [go_sem] using h.s0
    s1:=by simpa [go_sem] using h.s1
    s2:=by
     rw [e];have:=World.cell?_setCell_same (w:=W) ⟨w0.heap.size+1,2,none⟩ (.int .i64 ((x:Int)+(k:Int))) h.s2
     simpa [go_sem] using this
    s3:=by
     rw [e];have h3:(W.setCell ⟨w0.heap.size+1,2,none⟩ (.int .i64 ((x:Int)+(k:Int)))).cell? ⟨w0.heap.size+1,3,none⟩=some (.int .i64 (S.gapSums pre).2):=by simpa [go_sem] using h.s3
     have:=World.cell?_setCell_same (w:=W.setCell ⟨w0.heap.size+1,2,none⟩ (.int .i64 ((x:Int)+(k:Int)))) ⟨w0.heap.size+1,3,none⟩ (.int .i64 (max (y:Int) (k:Int))) h3;rw [this]
     congr 2
     simp only;omega
    fz:=fun j=>by simpa [go_sem] using h.fz j }
end StatsI
theorem wp_then_false {P:Program} {c:Code} {K:Act → World → Prop} {Q:Exit → Act → World → Prop} {a:Act} {w:World} (h:c.wp P (Exit.then K fun _ _ _=>False) a w):c.wp P (Exit.then K Q) a w:=
 wp_mono h fun e a w he=>by
  cases e
  case normal=>exact he
  all_goals exact False.elim he
set_option maxRecDepth 100000 in
set_option maxHeartbeats 8000000 in
theorem Stats_any {w:World} {d:Hd} {S:Hp.Hs} {T:List Nat} {L:List (Nat × Nat)} (h:HAt w d S) (hl:S.live=some T) (hp:S.piecesFrom S.fuel 17=some L) :
    Calls Tryz.prog 21 #[.pointer (some ⟨d.hb,0,none⟩)] w fun e w'=>e = .returned (.tuple #[.agg #[.int .i64 S.taken.length,.int .i64 T.length,.int .i64 (S.gapSums L).1,.int .i64 (S.gapSums L).2],.int .i64 0]) ∧ Ext w w':=by
  have H:=Lib.hid h;have HL:=Lib.hid hl;have HP:=Lib.hid hp;clear h hl hp;refine (callsIn_wide (n:=5)).1 (callsIn_of_wp_marks Tryz.func21 rfl trivial ?_ rfl);simp only [Tryz.ntmps21,List.size_toArray,List.length_cons,List.length_nil,Nat.reduceAdd,Nat.reduceSub,Array.replicate_succ,Array.replicate_zero,List.push_toArray,List.append_toArray,List.nil_append,List.cons_append];refine wpIn_wide.2 ?_;go_upto_region 3 with (go_at_call 72;refine (isMade_yes (H.out.ext exx)).mono ?_;rintro e w1 ⟨rfl,hb1⟩;obtain ⟨hc1,hf1,hs1⟩:=hb1.cells;have hz1_0:w.heap.size < w1.heap.size:=(by have h:=hb1.le;(try simp at h);omega);have hc1_0:=hb1.cell (b:=w.heap.size) (by first | omega | (simp;done) | (simp;omega));have hf1_0:=hb1.frozen (b:=w.heap.size) (by first | omega | (simp;done) | (simp;omega));have hz1_1:w.heap.size+1 < w1.heap.size:=(by have h:=hb1.le;(try simp at h);omega);have hc1_1:=hb1.cell (b:=w.heap.size+1) (by first | omega | (simp;done) | (simp;omega));have hf1_1:=hb1.frozen (b:=w.heap.size+1) (by first | omega | (simp;done) | (simp;omega)))
  have W1:Ext w w1:=exx;have H1:=Lib.hid (H.out.ext W1);have b0:w1.cell? ⟨w.heap.size,0,none⟩=some (.pointer (some ⟨d.hb,0,none⟩)):=by rw [hc1_0];simp [go_sem]
  have c3:=H1.out.c3;have z0:=H1.out.lt;have hln:=fun ty=>H1.out.map.len (t:=102) Tryz.underlying102 ty
  refine wp_then_false ?_;refine wp_region_any (by kernel_rfl) ?_;have PR18:=Lib.hid (fun (ww:World) (hSw:Ext w1 ww)=>And.intro ((hSw.cell z0 3).trans c3) (And.intro ((hSw.cell hz1_0 0).trans b0) (fun ty=>(H1.out.map.ext hSw).len (t:=102) Tryz.underlying102 ty)));refine wpAny_to_X (S:=fun W=>Ext w1 W) (R:=Ext) 9 9 Ext.refl ?_ ?_ (by rfl)
  · exact Ext.drew exx
  refine' tkY 0 rfl ?h0_1 ?_
  case h0_1=>(intro w q;obtain ⟨c3',b0',hln'⟩:=PR18.out w q;go_simp;try with_reducible rfl)
  refine layy ?_;refine' tkY 1 rfl ?h1_2 ?_
  case h1_2=>(intro w q;obtain ⟨c3',b0',hln'⟩:=PR18.out w q;go_simp;try with_reducible rfl)
  refine layy ?_;refine' tkY 2 rfl ?h2_3 ?_
  case h2_3=>(intro w q;obtain ⟨c3',b0',hln'⟩:=PR18.out w q;go_simp;try with_reducible rfl)
  refine layy ?_;refine' tkY 3 rfl ?h3_4 ?_
  case h3_4=>(intro w q;obtain ⟨c3',b0',hln'⟩:=PR18.out w q;go_simp;try with_reducible rfl)
  refine layy ?_;refine' tkY 4 rfl ?h4_5 ?_
  case h4_5=>(intro w q;obtain ⟨c3',b0',hln'⟩:=PR18.out w q;go_simp;try with_reducible rfl)
  refine layy ?_;refine' tkY 5 rfl ?h5_6 ?_
  case h5_6=>(intro w q;obtain ⟨c3',b0',hln'⟩:=PR18.out w q;go_simp;try with_reducible rfl)
  refine layy ?_;refine' tkY 6 rfl ?h6_7 ?_
  case h6_7=>(intro w q;obtain ⟨c3',b0',hln'⟩:=PR18.out w q;go_simp;try with_reducible rfl)
  refine layy ?_;refine' tkX 7 (v:=.int .i64 T.length) rfl (Or.inr ⟨by rfl,74,_, ?hx7_8, ?hy7_8⟩) ?rest7_8
  case hx7_8=>(intro w hSw;go_simp;try with_reducible rfl)
  case hy7_8=>exact fun w hE=>(ctake_any (H1.out.ext hE) HL.out).mono (fun _ _ h=>⟨h.1,h.2,Ext.trans hE h.2⟩)
  refine layy ?_;refine' tkY 8 rfl ?h8_9 ?_
  case h8_9=>(intro w q;obtain ⟨c3',b0',hln'⟩:=PR18.out w q;go_simp;try with_reducible rfl)
  refine layy ?_;refine wpAnyX_done (by kernel_rfl) ?_;intro x1 _ Ex1;simp only [List.drop_succ_cons,List.drop_zero];have a0:∀ k,k < 4 → x1.cell? ⟨w.heap.size+1,k,none⟩=some (.int .i64 0):=fun k hk=>by
   have e:x1.cell? ⟨w.heap.size+1,k,none⟩=w1.cell? ⟨w.heap.size+1,k,none⟩:=Ex1.cell (by omega) k;rw [e,hc1_1];have:k=0 ∨ k=1 ∨ k=2 ∨ k=3:=by omega
   rcases this with rfl | rfl | rfl | rfl <;> simp [go_sem]
  have fz:∀ k,x1.frozen? ⟨w.heap.size+1,k,none⟩=false:=fun k=>by
   have e:x1.frozen? ⟨w.heap.size+1,k,none⟩=w1.frozen? ⟨w.heap.size+1,k,none⟩:=Ex1.frozen (by omega) k;rw [e,hf1_1];simp [go_sem]
  have bx:x1.cell? ⟨w.heap.size,0,none⟩=some (.pointer (some ⟨d.hb,0,none⟩)):=(Ex1.cell hz1_0 0).trans b0;have a00:=a0 0 (by omega);have a01:=a0 1 (by omega);have f00:=fz 0;have f01:=fz 1;clear b0 c3 hln
  go_wp2_with fail
  obtain ⟨W2,hW2⟩:∃ W2,((x1.setCell ⟨w.heap.size+1,0,none⟩ (.int .i64 S.taken.length)).setCell ⟨w.heap.size+1,1,none⟩ (.int .i64 T.length))=W2:=⟨_,rfl⟩
  have E2:Ext w W2:=by
   rw [← hW2];exact exx
  have I0:StatsI w d S w.heap.size S.taken.length T.length [] W2:=by
   rw [← hW2];have kb:But [w.heap.size+1] x1 ((x1.setCell ⟨w.heap.size+1,0,none⟩ (.int .i64 S.taken.length)).setCell ⟨w.heap.size+1,1,none⟩ (.int .i64 T.length)):=((But.refl _ _).setCell (.inl (by simp)) _).setCell (.inl (by simp)) _;have o:=H.out.own_lt;have o1:=o _ d.hb_own;have o2:=o _ d.gw_own;have o3:=o _ d.gm_own;exact
   { at_:=(H1.out.ext Ex1).but kb (by simp;omega) (by simp;omega) (by simp;omega) (fun b o e=>by have:=H.out.old1 b o e;simp;omega) (fun b o e=>by have:=H.out.old2 b o e;simp;omega)
     ext:=by rw [hW2];exact E2
     box:=by simpa [go_sem] using bx
     s0:=by simpa [go_sem] using World.cell?_setCell_same _ _ _ a00
     s1:=World.cell?_setCell_same _ _ _ (by simpa [go_sem] using a01)
     s2:=by simpa [go_sem,Hp.Hs.gapSums] using a0 2 (by omega)
     s3:=by simpa [go_sem,Hp.Hs.gapSums] using a0 3 (by omega)
     fz:=fun k=>by simpa [go_sem] using fz k }
  rw [hW2];have sz2:w.heap.size+1 < W2.heap.size:=cell_lt I0.s0;have IH:=Lib.hid I0;have own0:=H.out.own_lt;have old1:=H.out.old1;have old2:=H.out.old2;clear a0 fz bx a00 a01 f00 f01 I0 hc1_0 hf1_0 hc1_1 hf1_1;refine (wpIn_wide (n:=5)).1 ?_
  refine' wpIn_bound (F:=Fence.wide) (n:=5) rfl (by omega) (gf:=75) (first:=#[.pointer (some ⟨d.hb,0,none⟩)]) rfl trivial (enters_of Tryz.func75 (by kernel_rfl) rfl) (cells_gives HP.out) (fun _=>rfl)
   (StatsI w d S w.heap.size S.taken.length T.length) ?hI (fun _ _ h=>h.at_) IH.out _ ?assign ?body ?done
  case hI=>
   intro pre W W' hi hsz hb;exact
   { at_:=hi.at_.below_ hb (fun b hm=>by have:=own0 b hm;omega) (fun b o e=>by have:=old1 b o e;omega) (fun b o e=>by have:=old2 b o e;omega)
     ext:=hi.ext.trans' hb (by omega)
     box:=(hb.cell (p:=⟨w.heap.size,0,none⟩) (by simp;omega)).trans hi.box
     s0:=(hb.cell (p:=⟨w.heap.size+1,0,none⟩) (by simp;omega)).trans hi.s0
     s1:=(hb.cell (p:=⟨w.heap.size+1,1,none⟩) (by simp;omega)).trans hi.s1
     s2:=(hb.cell (p:=⟨w.heap.size+1,2,none⟩) (by simp;omega)).trans hi.s2
     s3:=(hb.cell (p:=⟨w.heap.size+1,3,none⟩) (by simp;omega)).trans hi.s3
     fz:=fun k=>(hb.frozen (p:=⟨w.heap.size+1,k,none⟩) (by simp;omega)).trans (hi.fz k) }
  case assign=>
   intro l x W K hK;dsimp only [encC]
   gi_wp2
   exact hK
  case body=>
   intro l pre x r W hLx hi hsz;obtain ⟨⟨t,ht⟩,hk⟩:=pieces_tag HP.out x (by rw [hLx];simp);have hsm:=sums_small (S:=S) (L:=pre) (fun y hy=>(pieces_tag HP.out y (by rw [hLx];simp [hy])).2);have hpl:pre.length ≤ 2000000:=by
    have h1:=pieces_len HP.out;have h2:=congrArg List.length hLx;have h3:=hi.at_.small;simp only [Hp.Hs.fuel,List.length_append,List.length_cons] at h1 h2;omega
   have HI:=Lib.hid hi;have HT:=Lib.hid ht;have bx:=hi.box;clear hLx hi ht;obtain ⟨a,ha⟩:∃ a,(S.gapSums pre).1=a:=⟨_,rfl⟩
   obtain ⟨m,hm⟩:∃ m,(S.gapSums pre).2=m:=⟨_,rfl⟩
   obtain ⟨xa,k⟩:=x;simp only at hk HT;rw [ha,hm] at hsm;have w1:IntKind.i64.wrap ((a:Int)+(k:Int))=(a:Int)+(k:Int):=IntWalk.i64_in _ (by omega);have HA:=Lib.hid ha;have HM:=Lib.hid hm;have zW:w.heap.size+1 < W.heap.size:=by omega
   clear ha hm
   by_cases h0:t=0
   · subst h0
     gi_wp2_with (refine ⟨trivial, ?_⟩;gi_at_call 76;refine (CallsIn.inRound l (callsIn_wide.2 (tag_any HI.out.at_.c2 rfl HI.out.at_.le HI.out.at_.cap HI.out.at_.words HT.out))).mono ?_;rintro e w3 ⟨rfl,hb3⟩;have g2:=(hb3.cell zW 2).trans HI.out.s2;have g3:=(hb3.cell zW 3).trans HI.out.s3;rw [HA.out] at g2;rw [HM.out] at g3;have q2:=(hb3.frozen zW 2).trans (HI.out.fz 2);have q3:=(hb3.frozen zW 3).trans (HI.out.fz 3))
     have I3:StatsI w d S w.heap.size S.taken.length T.length pre w3:=HI.out.ext_ hb3;exact ⟨Rest.setCell (Rest.setCell ((Rest.refl _ _).ext hb3) (by simp;omega) _) (by simp;omega) _,I3.step HT.out HA.out HM.out (own0:=fun b hm=>by have:=own0 b hm;omega) (fun b o e=>by have:=old1 b o e;omega) (fun b o e=>by have:=old2 b o e;omega)⟩
   · have t0:(t == 0)=false:=by simpa using h0
     gi_wp2_with (refine ⟨trivial, ?_⟩;gi_at_call 76;refine (CallsIn.inRound l (callsIn_wide.2 (tag_any HI.out.at_.c2 rfl HI.out.at_.le HI.out.at_.cap HI.out.at_.words HT.out))).mono ?_;rintro e w3 ⟨rfl,hb3⟩)
     exact ⟨(Rest.refl _ _).ext hb3,(HI.out.ext_ hb3).skip HT.out h0⟩
  case done=>
   intro W hi hsz hD;dsimp only;have HI:=Lib.hid hi;have g0:=hi.s0;have g1:=hi.s1;have g2:=hi.s2;have g3:=hi.s3;have q:=hi.fz;have q0:=hi.fz 0;have q1:=hi.fz 1;have q2:=hi.fz 2;have q3:=hi.fz 3
   go_wp2_with fail
   clear q0 q1 q2 q3 g0 g1 g2 g3 q hi;obtain ⟨V,hV⟩:∃ V,((((W.setCell ⟨w.heap.size+1,0,none⟩ (.int .i64 S.taken.length)).setCell ⟨w.heap.size+1,1,none⟩ (.int .i64 T.length)).setCell ⟨w.heap.size+1,2,none⟩ (.int .i64 (S.gapSums L).1)).setCell ⟨w.heap.size+1,3,none⟩ (.int .i64 (S.gapSums L).2))=V:=⟨_,rfl⟩
   have hB:∀ k:Nat,V.heap[k]? = W.heap[k]? := by
    rw [← hV];exact setCell_again (setCell_again (setCell_again (setCell_again (fun _=>rfl) HI.out.s0) HI.out.s1) HI.out.s2) HI.out.s3
   have EV:Ext w V:=by
    rw [← hV];exact Ext.setCell (Ext.setCell (Ext.setCell (Ext.setCell HI.out.ext (by simp) _) (by simp) _) (by simp) _) (by simp) _
   rw [hV];have hD':=(hB W2.heap.size).trans hD;refine ⟨by simp,.inl ⟨_,_,rfl,run_takeDeferred hD', ?_⟩⟩;have kp:∀ j,(V.putObj W2.heap.size (.deferred none)).cell? ⟨w.heap.size+1,j,none⟩=W.cell? ⟨w.heap.size+1,j,none⟩:=fun j=>World.cell?_of_block ((World.putObj_heap_other (by simp;omega)).trans (hB _))
   have v0:=(kp 0).trans HI.out.s0;have v1:=(kp 1).trans HI.out.s1;have v2:=(kp 2).trans HI.out.s2;have v3:=(kp 3).trans HI.out.s3;have EP:Ext w (V.putObj W2.heap.size (.deferred none)):=EV.trans' (below_putObj (B:=w.heap.size) _ (by omega)) (Nat.le_refl _);generalize V.putObj W2.heap.size (.deferred none)=U at *;refine ⟨.tuple #[.agg #[.int .i64 S.taken.length,.int .i64 T.length,.int .i64 (S.gapSums L).1,.int .i64 (S.gapSums L).2],.int .i64 0], ?_,rfl,EP⟩;clear hV hB EV hD hD' HI kp;simp [results,Tryz.results21,go_sem, *]
end Go.Proofs.YtdokmmhjmclmnaaGreat
