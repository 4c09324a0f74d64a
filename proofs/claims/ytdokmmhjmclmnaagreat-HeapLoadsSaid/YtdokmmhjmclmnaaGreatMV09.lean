/-
  Part 9 of a proof: HRange HFn29 HFn30 HFn31 HPlayM HFn35 HFn36 RegFork HFn37 PL13 HFn38 HFn39 HFn40 HFn41 HFn42 HFn43 HFn44 PL17 PL34 PN5 PL21 PL22 PL23 PL24 PL25 PL26.
-/
import Derived.Deep.CutBlock
import Derived.OwnWalkIn
import Derived.RangeFuncBound
import Derived.RangeFuncCalls
import Derived.RangeFuncLeaves
import Derived.RangeFuncNested
import Derived.Shelf.RegionOpen
import Derived.TacticsInMore
import Derived.Test.YtdokmmhjmclmnaaGreatMV02
import Derived.Test.YtdokmmhjmclmnaaGreatMV03
import Derived.Test.YtdokmmhjmclmnaaGreatMV04
import Derived.Test.YtdokmmhjmclmnaaGreatMV05
import Derived.Test.YtdokmmhjmclmnaaGreatMV06
import Derived.Test.YtdokmmhjmclmnaaGreatMV08
set_option linter.unusedSimpArgs false
set_option linter.unusedVariables false
set_option linter.unusedSectionVars false
set_option linter.unnecessarySimpa false
namespace Go.Proofs.YtdokmmhjmclmnaaGreat
variable {W' w w' w0 wb:World} {B a b base c cap ce cn f g gb i j k lb m n oc s sc:Nat} {choice t x:Int} {G W fs l o xs z:List Int} {L:List Hp.Tl} {S S':Hp.Hs} {A N T:List Nat} {M:List (Nat × Int)} {op p pe pn q sp:Option Addr} {d:Hd}
open Go.RowKit
def Gives {α:Type} (F:Fence) (n:Nat) (P:Program) (g:Nat) (first:Array Value) (encs:α->Array Value) (K:World->Prop) (L:List α):Prop:=
 ∀ (l:Nat) (J:List α->World->Prop) (W:World),(∀ pre W1,J pre W1->K W1)->(∀ pre W1 W2,J pre W1->Ext W1 W2->J pre W2) ->
  (∀ pre x r W1,L=pre ++ x :: r->J pre W1->YieldAt F (n-1) P l (encs x) W1 fun e W'=>e = .returned (.bool true)/\J (pre ++ [x]) W')->J [] W ->
  CallsIn F n P g (first ++ #[.func (.yield l) #[] #[]]) W fun e W'=>(∃ v,e = .returned v)/\J L W'
structure Rest (B:Nat) (W W':World):Prop where
 size:W.heap.size<=W'.heap.size
 same:∀ k,B<=k->k < W.heap.size->W'.heap[k]? = W.heap[k]?
theorem Rest.refl (B:Nat) (W:World):Rest B W W:=⟨Nat.le_refl _,fun _ _ _=>rfl⟩
theorem Rest.trans {a b c:World} (h:Rest B a b) (k:Rest B b c):Rest B a c:=
 ⟨Nat.le_trans h.size k.size,fun i hi hl=>(k.same i hi (Nat.lt_of_lt_of_le hl h.size)).trans (h.same i hi hl)⟩
theorem Rest.ext {a b c:World} (h:Rest B a b) (k:Ext b c):Rest B a c:=h.trans ⟨k.le,fun i _ hl=>k.block i hl⟩
theorem Rest.setCell {a b:World} (h:Rest B a b) {p:Addr} (hp:p.block < B) (v:Value):Rest B a (b.setCell p v):=
 ⟨by simpa [World.setCell] using h.size,fun k hk hl=>by rw [Below.heap_setCell _ _ _ _ (by omega)];exact h.same k hk hl⟩
theorem below_putObj {W:World} (o:Obj) (hb:B<=b):Below B W (W.putObj b o):=
 ⟨rfl,rfl,rfl,by simp,fun k hk=>World.putObj_heap_other (by omega)⟩
variable {F:Fence} {n:Nat} {P:Program}
theorem wpIn_bound {α:Type} {g:Operand} {ps:Array Tmp} {assign body:Code} {Q:Exit->Act->World->Prop} {a:Act} 
    (hro:F.round=none) (h1:1<=n) {gf:Nat} {first:Array Value} (hg:a.eval g = .func (.func gf) first #[]) (hFg:F.fn gf) (eg:∀ args w,(callFunc gf args).run P w = .ok (.enter gf args) w)
    {encs:α->Array Value} {K:World->Prop} {L:List α} (hseq:Gives F (n-1) P gf first encs K L) (hps:∀ x,(encs x).size=ps.size)
    (I:List α->World->Prop) (hI:∀ pre W W',I pre W->w.heap.size<=W.heap.size->Below w.heap.size W W'->I pre W') (hK:∀ pre W,I pre W->K W) (h0:I [] w) (a₁:α->Act)
    (hassign:∀ (l:Nat) (x:α) (W:World) (G:Act->World->Prop),G (a₁ x) W ->
     assign.wpIn (F.inRound l) (n-1-1) P (Exit.then G (fun _ _ _=>False)) { tmps:=(ps.zip (encs x)).foldl (fun t (p,v)=>t.setIfInBounds p v) a.tmps,defers:=[] } W)
    (hbody:∀ (l:Nat) (pre:List α) (x:α) (r:List α) (W:World),L=pre ++ x :: r->I pre W->w.heap.size<=W.heap.size ->
     body.wpIn (F.inRound l) (n-1-1) P (fun e _ W'=>e = .normal/\Rest w.heap.size W W'/\I (pre ++ [x]) W') (a₁ x) W)
    (hdone:∀ (W:World),I L W->w.heap.size<=W.heap.size->W.heap[w.heap.size]? = some (.deferred (some []))->Q .normal { a with defers:={ target:=.collected w.heap.size,args:=#[] } :: a.defers } W) :
    (Code.rangeFunc g ps assign body).wpIn F n P Q a w:=by
  refine wpIn_rangeFunc fun fn hfn=>?_
  rw [hro];obtain ⟨rec,hrec⟩:∃ rec:LoopState->Option Code->Loop,rec=fun st pe=>{ state:=st,pending:=pe,fn,tmps:=a.tmps,params:=ps,assign,body,defers:=w.heap.size }:=⟨_,rfl⟩
  obtain ⟨W1,hW1⟩:∃ W1,(w.alloc (.deferred (some []))).alloc (.loop (rec .ready none))=W1:=⟨_,rfl⟩
  have hE1:Below w.heap.size w W1:=by
   rw [<- hW1];exact ((Below.refl _ w).alloc (Nat.le_refl _) _).alloc (by simp) _
  have hz1:W1.heap.size=w.heap.size+2:=by rw [<- hW1];simp
  have hL1:W1.heap[w.heap.size+1]? = some (.loop (rec .ready none)):=by
   rw [<- hW1];have:=World.alloc_heap_new (w.alloc (.deferred (some []))) (.loop (rec .ready none))
   rwa [World.size_alloc] at this
  have hK1:W1.heap[w.heap.size]? = some (.deferred (some [])):=by
   rw [<- hW1];exact (Below.heap_alloc _ _ _ (by simp)).trans (World.alloc_heap_new w _)
  refine ⟨w.heap.size+1,[{ target:=.collected w.heap.size,args:=#[] }],W1,{ target:=.fn (.func gf) #[],args:=first ++ #[.func (.yield (w.heap.size+1)) #[] #[]] },W1,gf,
   first ++ #[.func (.yield (w.heap.size+1)) #[] #[]],W1, ?_, ?_, ?_, ?_,fun _=>h1, ?_⟩
  . rw [<- hW1,hrec];exact run_enterLoop_outer _ _ _ _ _
  . simp only [resolve,hg];simp [go_sem]
  . intro f' hf';simp [Target.leads] at hf';subst hf';exact hFg
  . simp [invoke,go_sem,eg]
  refine (hseq (w.heap.size+1)
   (fun pre W=>I pre W/\w.heap.size+2<=W.heap.size/\W.heap[w.heap.size+1]? = some (.loop (rec .ready none))/\W.heap[w.heap.size]? = some (.deferred (some []))) W1
   (fun pre W h=>hK pre W h.1)
   (fun pre A B h k=>⟨hI pre A B h.1 (by omega) (Below.mono k (by omega)),Nat.le_trans h.2.1 k.le,(k.block _ (by omega)).trans h.2.2.1,(k.block _ (by omega)).trans h.2.2.2⟩)
   ?_ ⟨hI _ _ _ h0 (Nat.le_refl _) hE1,by omega,hL1,hK1⟩).mono ?_
  . rintro pre x r W hLx ⟨hi,hsz,hl,hk⟩;have hy:=run_yield (P:=P) (args:=encs x) hl (by rw [hrec];exact hps x);rw [hrec] at hy;refine ⟨fn,_,assign,body,hy,roundIn_of_wpIn hfn (hassign _ x W _ ⟨_,run_beginRound hl (by rw [hrec]), ?_⟩)⟩;have hl2:(W.putObj (w.heap.size+1) (.loop { rec .ready none with state:=.busy })).heap[w.heap.size+1]? = some (.loop { rec .ready none with state:=.busy }):=World.putObj_heap_same (by omega);have hk2:(W.putObj (w.heap.size+1) (.loop { rec .ready none with state:=.busy })).heap[w.heap.size]? = some (.deferred (some [])):=(World.putObj_heap_other (by omega)).trans hk;refine wpIn_mono (hbody _ pre x r _ hLx (hI _ _ _ hi (by omega) (below_putObj _ (by omega))) (by simp;omega)) ?_;rintro e a3 W3 ⟨rfl,hr3,hi3⟩;have hs3:=hr3.size;simp only [World.putObj_size] at hs3;have hl3:=(hr3.same (w.heap.size+1) (by omega) (by simp;omega)).trans hl2;have hk3:=(hr3.same w.heap.size (by omega) (by simp;omega)).trans hk2;have hend:=run_endRound (P:=P) none hl3;simp only [Option.isNone_none,if_true] at hend;refine ⟨_,_,hend,rfl,hI _ _ _ hi3 (by omega) (below_putObj (b:=w.heap.size+1) _ (by omega)), ?_, ?_, ?_⟩
    . simp only [World.putObj_size];omega
    . have:=World.putObj_heap_same (w:=W3) (r:=w.heap.size+1) (o:=.loop (rec .ready none)) (by omega);rw [hrec] at this ⊢;exact this
    exact (World.putObj_heap_other (w:=W3) (r:=w.heap.size+1) (k:=w.heap.size) (by omega)).trans hk3
  rintro e W2 ⟨⟨v,rfl⟩,hi,hsz,hl,hk⟩;have hend:=run_endLoop (P:=P) hl (by rw [hrec];simp);rw [hrec] at hend;exact ⟨none,_,hend,hdone _ (hI _ _ _ hi (by omega) (below_putObj _ (by omega))) (by simp;omega) ((World.putObj_heap_other (by omega)).trans hk)⟩
def Hp.Hs.piecesFrom (S:Hp.Hs):Nat->Nat->Option (List (Nat × Nat))
 | 0,_=>none
 | n+1,a=>do
  if S.words.length<=a then some [] else
  let w0 <- Hp.rd S.words (a+1)
  let t <- S.tag a
  let k <- (if t=0 then Hp.adr w0 else Hp.wide S.sizes t:Option Nat)
  if 1000000 < k then none else
  let r <- S.piecesFrom n (a+k)
  some ((a,k) :: r)
theorem piecesFrom_succ {L:List (Nat × Nat)} (h:S.piecesFrom n a=some L) :
    (S.words.length<=a/\L=[]) \/ (a < S.words.length /\ ∃ n' x t k r,n=n'+1/\Hp.rd S.words (a+1)=some x/\S.tag a=some t/\((t ≠ 0/\Hp.wide S.sizes t=some k) \/ (t=0/\x=(k:Int)))/\k<=1000000/\L=(a,k) :: r/\S.piecesFrom n' (a+k)=some r):=by
  cases n with
  | zero=>simp [Hp.Hs.piecesFrom] at h
  | succ n=>
   unfold Hp.Hs.piecesFrom at h
   split at h
   . rename_i hge;exact .inl ⟨hge,by simpa using h.symm⟩
   rename_i hlt;simp only [Option.bind_eq_bind,Option.bind_eq_some_iff] at h;obtain ⟨x,hx,t,ht,k,hk,h⟩:=h
   split at h
   . cases h
   rename_i hkl;simp only [Option.bind_eq_some_iff,Option.some.injEq] at h;obtain ⟨r,hr,rfl⟩:=h;refine .inr ⟨by omega,n,x,t,k,r,rfl,hx,ht, ?_,by omega,rfl,hr⟩
   split at hk
   . rename_i h0;exact .inr ⟨h0,adr_some hk⟩
   rename_i h0;exact .inl ⟨h0,hk⟩
theorem pieces_len {S:Hp.Hs}:∀ {n a:Nat} {L:List (Nat × Nat)},S.piecesFrom n a=some L->L.length<=n
 | 0,a,L,h=>by simp [Hp.Hs.piecesFrom] at h
 | n+1,a,L,h=>by
  rcases piecesFrom_succ h with ⟨_,rfl⟩ | ⟨_,n',x,t,k,r,hn,_,_,_,_,rfl,hr⟩
  . simp
  obtain rfl:n=n':=by omega
  have:=pieces_len hr;simp;omega
theorem take_snocC {α:Type} {L r:List α} {x:α} (h:L.drop j=x :: r):L.take (j+1)=L.take j ++ [x]:=by
 have hl:j < L.length:=by
  have:=congrArg List.length h;simp at this;omega
 rw [List.take_succ_eq_append_getElem hl]
 rw [List.drop_eq_getElem_cons hl] at h
 rw [(List.cons.inj h).1]
theorem drop_snocC {α:Type} {L r:List α} {x:α} (h:L.drop j=x :: r):L.drop (j+1)=r:=by
 rw [<- List.drop_drop,h]
 rfl
def encC (x:Nat × Nat):Array Value:=#[.int .i64 (x.1:Int),.int .i64 (x.2:Int)]
set_option maxRecDepth 100000 in
set_option maxHeartbeats 8000000 in
theorem cells_gives {L:List (Nat × Nat)} (hr:S.piecesFrom S.fuel 17=some L) :
    Gives Fence.wide 4 Tryz.prog 75 #[.pointer (some ⟨d.hb,0,none⟩)] encC (fun W=>HAt W d S) L:=by
  intro l J W hK hE hY h0;refine callsIn_wide.2 ?_;have H:=hZ (hK _ _ h0);have KK:=hZ hK;have EE:=hZ hE;have YY:=hZ hY;have J0:=hZ h0;have HR:=hZ (show S.piecesFrom S.fuel 17=some (L.drop 0) from hr);have sm:=H.out.small;obtain ⟨n,hn⟩:∃ n,S.words.length=n:=⟨_,rfl⟩
  have EN:=hZ hn;rw [hn] at sm;clear hK hE hY h0 hr hn;show Calls Tryz.prog 75 #[.pointer (some ⟨d.hb,0,none⟩),.func (.yield l) #[] #[]] W _;go_enter Tryz.func75,Tryz.ntmps75
  go_wp2_with fail
  go_loopg [4] (L.length+1) (fun g i wr=>∃ (j a m:Nat),j<=L.length/\L.length-j+1<=g/\i = .int .i64 a/\a<=2000000/\Hid (J (L.take j) wr)/\Hid (S.piecesFrom m a=some (L.drop j)))
  case atStart=>exact ⟨0,17,S.fuel,by omega,by omega,rfl,by omega,J0,HR⟩
  case round=>
   obtain ⟨j,a,m,hj,hg,rfl,ha,JJ,HC⟩:=hrel;clear J0 HR H;have H:=hZ (KK.out _ _ JJ.out);have c2:=H.out.c2;rw [EN.out] at c2;have hle:=H.out.le;have hcap:=H.out.cap;rw [EN.out] at hle
   rcases piecesFrom_succ HC.out with ⟨hge,hnil⟩ | ⟨hlt,m',y,t,k,r,-,hy,ht,hk,hkl,hcons,hrest⟩
   . rw [EN.out] at hge;have hjl:L.take j=L:=List.take_of_length_le (by simpa using hnil);have JL:=hZ (hjl ▸ JJ.out)
     go_wp2_with fail
     go_returns;exact ⟨⟨_,rfl⟩,JL.out⟩
   rw [EN.out] at hlt;have hyl:=rd_lt hy;rw [EN.out] at hyl;have gy:=H.out.words.get hy;have HT:=hZ ht;have HCONS:=hZ hcons;have HREST:=hZ hrest;have c0:=H.out.c0;have c1:=H.out.c1;have z1:=H.out.lt;have hjl:j < L.length:=by
    have:=congrArg List.length hcons;simp at this;omega
   have tk:decide ((a:Int) < (n:Int))=true:=by simpa using (by omega:(a:Int) < (n:Int))
   clear hy ht hcons hrest HC
   rcases hk with ⟨h0,hk⟩ | ⟨rfl,rfl⟩
   . have HK:=hZ hk;have t0:(t != 0)=true:=by simpa using h0
     clear hk h0;go_upto_region 4 with (go_at_call 76;refine (tag_any H.out.c2 rfl H.out.le H.out.cap H.out.words HT.out).mono ?_;rintro e w1 ⟨rfl,hb1⟩;obtain ⟨hc1,hf1,hs1⟩:=hb1.cells)
     clear c2 gy tk;have H1:=hZ (H.out.ext hb1);have J1:=hZ (EE.out _ _ _ JJ.out hb1);have c0:=H1.out.c0;have c1:=H1.out.c1;have z1:=H1.out.lt;have pr13a:=fun u_ (h_:Ext w1 u_)=>(h_.cell z1 0).trans c0
     have pr13b:=fun u_ (h_:Ext w1 u_)=>(h_.cell z1 1).trans c1
     refine wp_region_seq (S:=fun W=>Ext w1 W) (R:=Ext) (by kernel_rfl) Ext.refl ?_ ?_
     . exact exx
     refine' tkL 0 ?_;refine' tkL 1 ?_;refine' tkL 2 ?_;refine' tkL 3 ?_;refine' tkL 4 ?_;refine' tkL 5 ?_;refine' tkC 6 (.int .i64 t) 76 (fun w hE=>tag_any (H1.out.ext hE).c2 rfl H1.out.le H1.out.cap (H1.out.ext hE).words HT.out) ?_;refine' tkC 7 (.int .i64 k) 123 (fun w hE=>wide_any (H1.out.ext hE).sizes HK.out (by omega)) ?_;refine' tkL 8 ?_;refine wpAnyR_done (by kernel_rfl) ?_ _;intro x1 _ Ex1;clear pr13a pr13b;have J2:=hZ (EE.out _ _ _ J1.out Ex1);obtain ⟨fn,tmps,assign,body,hy,hR⟩:=YY.out (L.take j) (a,k) r x1 (by rw [<- HCONS.out,List.take_append_drop]) J2.out;dsimp only [encC] at hy;go_upto_region 5 with (fail)
     refine (wpIn_wide (n:=4)).1 ?_
     gi_wp2
     refine hR.mono ?_;rintro e w3 ⟨rfl,J3⟩
     gi_wp2
     go_wp2_with fail
     go_roundg (L.length-(j+1)+1)
     case measure=>omega
     case rel=>exact ⟨j+1,a+k,m',by omega,Nat.le_refl _,by go_num,by omega,hZ (by rw [take_snocC HCONS.out];exact J3),hZ (by rw [drop_snocC HCONS.out];exact HREST.out)⟩
   have tk0:((0:Int) != 0)=false:=rfl;go_upto_region 5 with (go_at_call 76;refine (tag_any H.out.c2 rfl H.out.le H.out.cap H.out.words HT.out).mono ?_;rintro e w1 ⟨rfl,hb1⟩;obtain ⟨hc1,hf1,hs1⟩:=hb1.cells)
   clear c2 gy tk;have J2:=hZ (EE.out _ _ _ JJ.out hb1);obtain ⟨fn,tmps,assign,body,hy,hR⟩:=YY.out (L.take j) (a,k) r w1 (by rw [<- HCONS.out,List.take_append_drop]) J2.out;dsimp only [encC] at hy;refine (wpIn_wide (n:=4)).1 ?_
   gi_wp2
   refine hR.mono ?_;rintro e w3 ⟨rfl,J3⟩
   gi_wp2
   go_wp2_with fail
   go_roundg (L.length-(j+1)+1)
   case measure=>omega
   case rel=>exact ⟨j+1,a+k,m',by omega,Nat.le_refl _,by go_num,by omega,hZ (by rw [take_snocC HCONS.out];exact J3),hZ (by rw [drop_snocC HCONS.out];exact HREST.out)⟩
open Go.RowKit Go.Maps
attribute [local go_sem] Oper.semAt_some
def Hp.Hs.gapSums (S:Hp.Hs) (L:List (Nat × Nat)):Nat × Nat:=L.foldl (fun q x=>if S.tag x.1=some 0 then (q.1+x.2,max q.2 x.2) else q) (0,0)
theorem setCell_again {a:World} {p:Addr} {u:Value} (h:∀ k:Nat,w.heap[k]? = a.heap[k]?) (hc:a.cell? p=some u):∀ k:Nat,(w.setCell p u).heap[k]? = a.heap[k]? :=
 fun k=>(setCell_same_block (by rw [World.cell?_of_block (h _)];exact hc) k).trans (h k)
theorem gapSums_snoc (S:Hp.Hs) (L:List (Nat × Nat)) (x:Nat × Nat):S.gapSums (L ++ [x])=if S.tag x.1=some 0 then ((S.gapSums L).1+x.2,max (S.gapSums L).2 x.2) else S.gapSums L:=by
 simp [Hp.Hs.gapSums,List.foldl_append]
theorem pieces_tag {S:Hp.Hs}:∀ {n a:Nat} {L:List (Nat × Nat)},S.piecesFrom n a=some L -> ∀ x ∈ L,(∃ t,S.tag x.1=some t)/\x.2<=1000000
 | 0,a,L,h=>by simp [Hp.Hs.piecesFrom] at h
 | n+1,a,L,h=>by
  rcases piecesFrom_succ h with ⟨_,rfl⟩ | ⟨_,n',x,t,k,r,hn,_,ht,_,hk,rfl,hr⟩
  . simp
  intro y hy
  rcases List.mem_cons.1 hy with rfl | hy
  . exact ⟨⟨t,ht⟩,hk⟩
  exact pieces_tag hr y hy
theorem gapSums_small {S:Hp.Hs}:∀ (r pre:List (Nat × Nat)),(∀ x ∈ pre ++ r,x.2<=1000000)->(S.gapSums pre).1<=1000000 * pre.length->(S.gapSums pre).2<=1000000->(S.gapSums (pre ++ r)).1<=1000000 * (pre ++ r).length/\(S.gapSums (pre ++ r)).2<=1000000
 | [],pre,_,h1,h2=>by simpa using ⟨h1,h2⟩
 | x :: r,pre,h,h1,h2=>by
  have hx:=h x (by simp)
  have:=gapSums_small (S:=S) r (pre ++ [x]) (fun y hy=>h y (by simpa using hy)) (by
   rw [gapSums_snoc,List.length_append,List.length_singleton]
   split
   . show (S.gapSums pre).1+x.2<=_;omega
   . omega) (by
   rw [gapSums_snoc]
   split
   . show max (S.gapSums pre).2 x.2<=_;omega
   . exact h2)
  rw [show pre ++ x :: r=(pre ++ [x]) ++ r by simp];exact this
theorem sums_small {L:List (Nat × Nat)} (h:∀ x ∈ L,x.2<=1000000):(S.gapSums L).1<=1000000 * L.length/\(S.gapSums L).2<=1000000:=by
 simpa using gapSums_small (S:=S) L [] (by simpa using h) (by simp [Hp.Hs.gapSums]) (by simp [Hp.Hs.gapSums])
theorem HAt.below_ (h:HAt w d S) (k:Below B w w') (ho:∀ b ∈ d.own,b < B) (h1:∀ b o,d.sp=some ⟨b,o,none⟩->b < B) (h2:∀ b o,d.op=some ⟨b,o,none⟩->b < B):HAt w' d S:=by
 have kb:But (List.range' B (w.heap.size-B)) w w':=⟨k.os,k.tape,k.output,k.size,fun i hi hn=>k.block i (by
  rcases Nat.lt_or_ge i B with h | h
  . exact h
  . exact absurd (List.mem_range'_1.2 ⟨h,by omega⟩) hn)⟩
 have key:∀ b,b < B->b ∉ List.range' B (w.heap.size-B):=fun b hb hm=>by
  have:=(List.mem_range'_1.1 hm).1;omega
 exact h.but kb (key _ (ho _ d.hb_own)) (key _ (ho _ d.gw_own)) (key _ (ho _ d.gm_own)) (fun b o e=>key _ (h1 b o e)) (fun b o e=>key _ (h2 b o e))
structure StatsI (w0:World) (d:Hd) (S:Hp.Hs) (B n m:Nat) (pre:List (Nat × Nat)) (W:World):Prop where
 at_:HAt W d S
 ext:Ext w0 W
 box:W.cell? ⟨B,0,none⟩=some (.pointer (some ⟨d.hb,0,none⟩))
 s0:W.cell? ⟨B+1,0,none⟩=some (.int .i64 n)
 s1:W.cell? ⟨B+1,1,none⟩=some (.int .i64 m)
 s2:W.cell? ⟨B+1,2,none⟩=some (.int .i64 (S.gapSums pre).1)
 s3:W.cell? ⟨B+1,3,none⟩=some (.int .i64 (S.gapSums pre).2)
 fz:∀ k,W.frozen? ⟨B+1,k,none⟩=false
theorem Ext.trans' {a b c:World} (h:Ext a b) (k:Below B b c) (hB:a.heap.size<=B):Ext a c:=Below.trans h (Below.mono k hB)
namespace StatsI
variable {w0 W W':World} {d:Hd} {S:Hp.Hs} {B n m:Nat} {pre:List (Nat × Nat)}
theorem ext_ (h:StatsI w0 d S B n m pre W) (k:Ext W W'):StatsI w0 d S B n m pre W':=
 have z0:=cell_lt h.box
 have z1:=cell_lt h.s0
 { at_:=h.at_.ext k,ext:=h.ext.trans k,box:=(k.cell z0 0).trans h.box,s0:=(k.cell z1 0).trans h.s0,s1:=(k.cell z1 1).trans h.s1,s2:=(k.cell z1 2).trans h.s2,s3:=(k.cell z1 3).trans h.s3,fz:=fun j=>(k.frozen z1 j).trans (h.fz j) }
theorem skip (h:StatsI w0 d S B n m pre W) (ht:S.tag a=some t) (h0:¬ t=0):StatsI w0 d S B n m (pre ++ [(a,k)]) W:=by
 have e:S.gapSums (pre ++ [(a,k)])=S.gapSums pre:=by
  rw [gapSums_snoc,if_neg];rw [ht]
  simpa using h0
 exact { at_:=h.at_,ext:=h.ext,box:=h.box,s0:=h.s0,s1:=h.s1,s2:=by rw [e];exact h.s2,s3:=by rw [e];exact h.s3,fz:=h.fz }
theorem step (h:StatsI w0 d S w0.heap.size n m pre W) {x y:Nat} (ht:S.tag a=some 0) (hx:(S.gapSums pre).1=x) (hy:(S.gapSums pre).2=y) (own0:∀ b ∈ d.own,b < w0.heap.size) (h1:∀ b o,d.sp=some ⟨b,o,none⟩->b < w0.heap.size) (h2:∀ b o,d.op=some ⟨b,o,none⟩->b < w0.heap.size) :
    StatsI w0 d S w0.heap.size n m (pre ++ [(a,k)]) ((W.setCell ⟨w0.heap.size+1,2,none⟩ (.int .i64 ((x:Int)+(k:Int)))).setCell ⟨w0.heap.size+1,3,none⟩ (.int .i64 (max (y:Int) (k:Int)))):=by
  have e:S.gapSums (pre ++ [(a,k)])=(x+k,max y k):=by
   rw [gapSums_snoc,if_pos ht,hx,hy]
  have kb:But [w0.heap.size+1] W ((W.setCell ⟨w0.heap.size+1,2,none⟩ (.int .i64 ((x:Int)+(k:Int)))).setCell ⟨w0.heap.size+1,3,none⟩ (.int .i64 (max (y:Int) (k:Int)))):=((But.refl _ _).setCell (.inl (by simp)) _).setCell (.inl (by simp)) _;have o1:=own0 _ d.hb_own;have o2:=own0 _ d.gw_own;have o3:=own0 _ d.gm_own;exact
  { at_:=h.at_.but kb (by simp;omega) (by simp;omega) (by simp;omega) (fun b o e=>by have:=h1 b o e;simp;omega) (fun b o e=>by have:=h2 b o e;simp;omega)
    ext:=Ext.setCell (Ext.setCell h.ext (by simp) _) (by simp) _
    box:=by simpa [go_sem] using h.box
    s0:=by simpa [go_sem] using h.s0
    s1:=by simpa [go_sem] using h.s1
    s2:=by
     rw [e];have:=World.cell?_setCell_same (w:=W) ⟨w0.heap.size+1,2,none⟩ (.int .i64 ((x:Int)+(k:Int))) h.s2
     simpa [go_sem] using this
    s3:=by
     rw [e];have h3:(W.setCell ⟨w0.heap.size+1,2,none⟩ (.int .i64 ((x:Int)+(k:Int)))).cell? ⟨w0.heap.size+1,3,none⟩=some (.int .i64 (S.gapSums pre).2):=by simpa [go_sem] using h.s3
     have:=World.cell?_setCell_same (w:=W.setCell ⟨w0.heap.size+1,2,none⟩ (.int .i64 ((x:Int)+(k:Int)))) ⟨w0.heap.size+1,3,none⟩ (.int .i64 (max (y:Int) (k:Int))) h3;rw [this]
     congr 2
     simp only;omega
    fz:=fun j=>by simpa [go_sem] using h.fz j }
end StatsI
theorem wp_then_false {P:Program} {c:Code} {K:Act->World->Prop} {Q:Exit->Act->World->Prop} {a:Act} (h:c.wp P (Exit.then K fun _ _ _=>False) a w):c.wp P (Exit.then K Q) a w:=
 wp_mono h fun e a w he=>by
  cases e
  case normal=>exact he
  all_goals exact False.elim he
set_option maxRecDepth 100000 in
set_option maxHeartbeats 8000000 in
theorem Stats_any {L:List (Nat × Nat)} (h:HAt w d S) (hl:S.live=some T) (hp:S.piecesFrom S.fuel 17=some L) :
    Calls Tryz.prog 21 #[.pointer (some ⟨d.hb,0,none⟩)] w fun e w'=>e = .returned (.tuple #[.agg #[.int .i64 S.taken.length,.int .i64 T.length,.int .i64 (S.gapSums L).1,.int .i64 (S.gapSums L).2],.int .i64 0])/\Ext w w':=by
  have H:=hZ h;have HL:=hZ hl;have HP:=hZ hp;clear h hl hp;refine (callsIn_wide (n:=5)).1 (callsIn_of_wp_marks Tryz.func21 rfl trivial ?_ rfl);simp only [Tryz.ntmps21,List.size_toArray,List.length_cons,List.length_nil,Nat.reduceAdd,Nat.reduceSub,Array.replicate_succ,Array.replicate_zero,List.push_toArray,List.append_toArray,List.nil_append,List.cons_append];refine wpIn_wide.2 ?_;go_upto_region 3 with (go_at_call 72;refine (isMade_yes (H.out.ext exx)).mono ?_;rintro e w1 ⟨rfl,hb1⟩;obtain ⟨hc1,hf1,hs1⟩:=hb1.cells;have hz1_0:w.heap.size < w1.heap.size:=(by have h:=hb1.le;(try simp at h);omega);have hc1_0:=hb1.cell (b:=w.heap.size) (by first | omega | (simp;done) | (simp;omega));have hf1_0:=hb1.frozen (b:=w.heap.size) (by first | omega | (simp;done) | (simp;omega));have hz1_1:w.heap.size+1 < w1.heap.size:=(by have h:=hb1.le;(try simp at h);omega);have hc1_1:=hb1.cell (b:=w.heap.size+1) (by first | omega | (simp;done) | (simp;omega));have hf1_1:=hb1.frozen (b:=w.heap.size+1) (by first | omega | (simp;done) | (simp;omega)))
  have W1:Ext w w1:=exx;have H1:=hZ (H.out.ext W1);have b0:w1.cell? ⟨w.heap.size,0,none⟩=some (.pointer (some ⟨d.hb,0,none⟩)):=by rw [hc1_0];simp [go_sem]
  have c3:=H1.out.c3;have z0:=H1.out.lt;have hln:=fun ty=>H1.out.map.len (t:=102) Tryz.underlying102 ty
  refine wp_then_false ?_;refine wp_region_any (by kernel_rfl) ?_;have pr14a:=fun u_ (h_:Ext w1 u_)=>(h_.cell z0 3).trans c3
  have pr14b:=fun u_ (h_:Ext w1 u_)=>(h_.cell hz1_0 0).trans b0
  have pr14c:=fun u_ (h_:Ext w1 u_)=>fun ty=>(H1.out.map.ext h_).len (t:=102) Tryz.underlying102 ty
  refine wpAny_to_X (S:=fun W=>Ext w1 W) (R:=Ext) 9 9 Ext.refl ?_ ?_ (by rfl)
  . exact Ext.drew exx
  refine' tkY 0 ?_;refine' tkY 1 ?_;refine' tkY 2 ?_;refine' tkY 3 ?_;refine' tkY 4 ?_;refine' tkY 5 ?_;refine' tkY 6 ?_;refine' tkX 7 (v:=.int .i64 T.length) rfl (Or.inr ⟨by rfl,74,_, ?hx7_213, ?hy7_213⟩) ?rest7_213
  case hx7_213=>(intro w hSw;go_simp;try with_reducible rfl)
  case hy7_213=>exact fun w hE=>(ctake_any (H1.out.ext hE) HL.out).mono (fun _ _ h=>⟨h.1,h.2,Ext.trans hE h.2⟩)
  refine layy ?_;refine' tkY 8 ?_;refine wpAnyX_done (by kernel_rfl) ?_;intro x1 _ Ex1;clear pr14a pr14b pr14c;simp only [List.drop_succ_cons,List.drop_zero];have a0:∀ k,k < 4->x1.cell? ⟨w.heap.size+1,k,none⟩=some (.int .i64 0):=fun k hk=>by
   have e:x1.cell? ⟨w.heap.size+1,k,none⟩=w1.cell? ⟨w.heap.size+1,k,none⟩:=Ex1.cell (by omega) k;rw [e,hc1_1];have:k=0 \/ k=1 \/ k=2 \/ k=3:=by omega
   rcases this with rfl | rfl | rfl | rfl <;> simp [go_sem]
  have fz:∀ k,x1.frozen? ⟨w.heap.size+1,k,none⟩=false:=fun k=>by
   have e:x1.frozen? ⟨w.heap.size+1,k,none⟩=w1.frozen? ⟨w.heap.size+1,k,none⟩:=Ex1.frozen (by omega) k;rw [e,hf1_1];simp [go_sem]
  have bx:x1.cell? ⟨w.heap.size,0,none⟩=some (.pointer (some ⟨d.hb,0,none⟩)):=(Ex1.cell hz1_0 0).trans b0;have a00:=a0 0 (by omega);have a01:=a0 1 (by omega);have f00:=fz 0;have f01:=fz 1;clear b0 c3 hln
  go_wp2_with fail
  obtain ⟨W2,hW2⟩:∃ W2,((x1.setCell ⟨w.heap.size+1,0,none⟩ (.int .i64 S.taken.length)).setCell ⟨w.heap.size+1,1,none⟩ (.int .i64 T.length))=W2:=⟨_,rfl⟩
  have E2:Ext w W2:=by
   rw [<- hW2];exact exx
  have I0:StatsI w d S w.heap.size S.taken.length T.length [] W2:=by
   rw [<- hW2];have kb:But [w.heap.size+1] x1 ((x1.setCell ⟨w.heap.size+1,0,none⟩ (.int .i64 S.taken.length)).setCell ⟨w.heap.size+1,1,none⟩ (.int .i64 T.length)):=((But.refl _ _).setCell (.inl (by simp)) _).setCell (.inl (by simp)) _;have o:=H.out.own_lt;have o1:=o _ d.hb_own;have o2:=o _ d.gw_own;have o3:=o _ d.gm_own;exact
   { at_:=(H1.out.ext Ex1).but kb (by simp;omega) (by simp;omega) (by simp;omega) (fun b o e=>by have:=H.out.old1 b o e;simp;omega) (fun b o e=>by have:=H.out.old2 b o e;simp;omega)
     ext:=by rw [hW2];exact E2
     box:=by simpa [go_sem] using bx
     s0:=by simpa [go_sem] using World.cell?_setCell_same _ _ _ a00
     s1:=World.cell?_setCell_same _ _ _ (by simpa [go_sem] using a01)
     s2:=by simpa [go_sem,Hp.Hs.gapSums] using a0 2 (by omega)
     s3:=by simpa [go_sem,Hp.Hs.gapSums] using a0 3 (by omega)
     fz:=fun k=>by simpa [go_sem] using fz k }
  rw [hW2];have sz2:w.heap.size+1 < W2.heap.size:=cell_lt I0.s0;have IH:=hZ I0;have own0:=H.out.own_lt;have old1:=H.out.old1;have old2:=H.out.old2;clear a0 fz bx a00 a01 f00 f01 I0 hc1_0 hf1_0 hc1_1 hf1_1;refine (wpIn_wide (n:=5)).1 ?_
  refine' wpIn_bound (F:=Fence.wide) (n:=5) rfl (by omega) (gf:=75) (first:=#[.pointer (some ⟨d.hb,0,none⟩)]) rfl trivial (enters_of Tryz.func75 (by kernel_rfl) rfl) (cells_gives HP.out) (fun _=>rfl)
   (StatsI w d S w.heap.size S.taken.length T.length) ?hI (fun _ _ h=>h.at_) IH.out _ ?assign ?body ?done
  case hI=>
   intro pre W W' hi hsz hb;exact
   { at_:=hi.at_.below_ hb (fun b hm=>by have:=own0 b hm;omega) (fun b o e=>by have:=old1 b o e;omega) (fun b o e=>by have:=old2 b o e;omega)
     ext:=hi.ext.trans' hb (by omega)
     box:=(hb.cell (p:=⟨w.heap.size,0,none⟩) (by simp;omega)).trans hi.box
     s0:=(hb.cell (p:=⟨w.heap.size+1,0,none⟩) (by simp;omega)).trans hi.s0
     s1:=(hb.cell (p:=⟨w.heap.size+1,1,none⟩) (by simp;omega)).trans hi.s1
     s2:=(hb.cell (p:=⟨w.heap.size+1,2,none⟩) (by simp;omega)).trans hi.s2
     s3:=(hb.cell (p:=⟨w.heap.size+1,3,none⟩) (by simp;omega)).trans hi.s3
     fz:=fun k=>(hb.frozen (p:=⟨w.heap.size+1,k,none⟩) (by simp;omega)).trans (hi.fz k) }
  case assign=>
   intro l x W K hK;dsimp only [encC]
   gi_wp2
   exact hK
  case body=>
   intro l pre x r W hLx hi hsz;obtain ⟨⟨t,ht⟩,hk⟩:=pieces_tag HP.out x (by rw [hLx];simp);have hsm:=sums_small (S:=S) (L:=pre) (fun y hy=>(pieces_tag HP.out y (by rw [hLx];simp [hy])).2);have hpl:pre.length<=2000000:=by
    have h1:=pieces_len HP.out;have h2:=congrArg List.length hLx;have h3:=hi.at_.small;simp only [Hp.Hs.fuel,List.length_append,List.length_cons] at h1 h2;omega
   have HI:=hZ hi;have HT:=hZ ht;have bx:=hi.box;clear hLx hi ht;obtain ⟨a,ha⟩:∃ a,(S.gapSums pre).1=a:=⟨_,rfl⟩
   obtain ⟨m,hm⟩:∃ m,(S.gapSums pre).2=m:=⟨_,rfl⟩
   obtain ⟨xa,k⟩:=x;simp only at hk HT;rw [ha,hm] at hsm;have w1:IntKind.i64.wrap ((a:Int)+(k:Int))=(a:Int)+(k:Int):=IntWalk.i64_in _ (by omega);have HA:=hZ ha;have HM:=hZ hm;have zW:w.heap.size+1 < W.heap.size:=by omega
   clear ha hm
   by_cases h0:t=0
   . subst h0
     gi_wp2_with (refine ⟨trivial, ?_⟩;gi_at_call 76;refine (CallsIn.inRound l (callsIn_wide.2 (tag_any HI.out.at_.c2 rfl HI.out.at_.le HI.out.at_.cap HI.out.at_.words HT.out))).mono ?_;rintro e w3 ⟨rfl,hb3⟩;have g2:=(hb3.cell zW 2).trans HI.out.s2;have g3:=(hb3.cell zW 3).trans HI.out.s3;rw [HA.out] at g2;rw [HM.out] at g3;have q2:=(hb3.frozen zW 2).trans (HI.out.fz 2);have q3:=(hb3.frozen zW 3).trans (HI.out.fz 3))
     have I3:StatsI w d S w.heap.size S.taken.length T.length pre w3:=HI.out.ext_ hb3;exact ⟨Rest.setCell (Rest.setCell ((Rest.refl _ _).ext hb3) (by simp;omega) _) (by simp;omega) _,I3.step HT.out HA.out HM.out (own0:=fun b hm=>by have:=own0 b hm;omega) (fun b o e=>by have:=old1 b o e;omega) (fun b o e=>by have:=old2 b o e;omega)⟩
   have t0:(t == 0)=false:=by simpa using h0
   gi_wp2_with (refine ⟨trivial, ?_⟩;gi_at_call 76;refine (CallsIn.inRound l (callsIn_wide.2 (tag_any HI.out.at_.c2 rfl HI.out.at_.le HI.out.at_.cap HI.out.at_.words HT.out))).mono ?_;rintro e w3 ⟨rfl,hb3⟩)
   exact ⟨(Rest.refl _ _).ext hb3,(HI.out.ext_ hb3).skip HT.out h0⟩
  case done=>
   intro W hi hsz hD;dsimp only;have HI:=hZ hi;have g0:=hi.s0;have g1:=hi.s1;have g2:=hi.s2;have g3:=hi.s3;have q:=hi.fz;have q0:=hi.fz 0;have q1:=hi.fz 1;have q2:=hi.fz 2;have q3:=hi.fz 3
   go_wp2_with fail
   clear q0 q1 q2 q3 g0 g1 g2 g3 q hi;obtain ⟨V,hV⟩:∃ V,((((W.setCell ⟨w.heap.size+1,0,none⟩ (.int .i64 S.taken.length)).setCell ⟨w.heap.size+1,1,none⟩ (.int .i64 T.length)).setCell ⟨w.heap.size+1,2,none⟩ (.int .i64 (S.gapSums L).1)).setCell ⟨w.heap.size+1,3,none⟩ (.int .i64 (S.gapSums L).2))=V:=⟨_,rfl⟩
   have hB:∀ k:Nat,V.heap[k]? = W.heap[k]? := by
    rw [<- hV];exact setCell_again (setCell_again (setCell_again (setCell_again (fun _=>rfl) HI.out.s0) HI.out.s1) HI.out.s2) HI.out.s3
   have EV:Ext w V:=by
    rw [<- hV];exact Ext.setCell (Ext.setCell (Ext.setCell (Ext.setCell HI.out.ext (by simp) _) (by simp) _) (by simp) _) (by simp) _
   rw [hV];have hD':=(hB W2.heap.size).trans hD;refine ⟨by simp,.inl ⟨_,_,rfl,run_takeDeferred hD', ?_⟩⟩;have kp:∀ j,(V.putObj W2.heap.size (.deferred none)).cell? ⟨w.heap.size+1,j,none⟩=W.cell? ⟨w.heap.size+1,j,none⟩:=fun j=>World.cell?_of_block ((World.putObj_heap_other (by simp;omega)).trans (hB _))
   have v0:=(kp 0).trans HI.out.s0;have v1:=(kp 1).trans HI.out.s1;have v2:=(kp 2).trans HI.out.s2;have v3:=(kp 3).trans HI.out.s3;have EP:Ext w (V.putObj W2.heap.size (.deferred none)):=EV.trans' (below_putObj (B:=w.heap.size) _ (by omega)) (Nat.le_refl _);generalize V.putObj W2.heap.size (.deferred none)=U at *;refine ⟨.tuple #[.agg #[.int .i64 S.taken.length,.int .i64 T.length,.int .i64 (S.gapSums L).1,.int .i64 (S.gapSums L).2],.int .i64 0], ?_,rfl,EP⟩;clear hV hB EV hD hD' HI kp;simp [results,Tryz.results21,go_sem, *]
open Go.RowKit Go.Maps
section
open Go.Sort Go.Shelf
def keysI (M:List (Nat × Int)):List Nat:=M.map fun p=>p.1
end
structure Cp (w W:World) (B:Nat) (own:List Nat) (d:Hd) (S:Hp.Hs) (gm:Nat) (M:List (Nat × Int)) (ps:Option Addr) (cs:Nat):Prop where
 at_:HAt W d S
 but:But own w W
 moved:MapIAt Tryz.prog W gm M
 cells:SliceAt W ps cs (natInts (keysI M))
 b1:∀ b ∈ d.own,b < B
 b2:∀ b o,d.sp=some ⟨b,o,none⟩->b < B
 b3:∀ b o,d.op=some ⟨b,o,none⟩->b < B
 b4:gm < B
 b5:∀ b o,ps=some ⟨b,o,none⟩->0 < M.length->b < B
 b6:w.heap.size<=B
 b7:B<=W.heap.size
theorem SliceAt.below_ (h:SliceAt w p c l) (k:Below B w w') (hp:∀ b o,p=some ⟨b,o,none⟩->0 < l.length->b < B):SliceAt w' p c l:=by
 refine ⟨h.le,h.cap,h.wf,fun h0=>?_⟩
 obtain ⟨b,o,rfl,hb,hc⟩:=h.cells h0
 exact ⟨b,o,rfl,Nat.lt_of_lt_of_le hb k.size,fun j x hx=>(k.cell (p:=⟨b,o+j,none⟩) (hp b o rfl h0)).trans (hc j x hx)⟩
theorem Cp.below {W:World} {own:List Nat} {gm:Nat} {ps:Option Addr} {cs:Nat} (h:Cp w W B own d S gm M ps cs) (k:Below B W W'):Cp w W' B own d S gm M ps cs:=
 { at_:=h.at_.below_ k h.b1 h.b2 h.b3
   but:=⟨k.os.trans h.but.os,k.tape.trans h.but.tape,k.output.trans h.but.output,Nat.le_trans h.but.size k.size,fun i hi hn=>(k.block i (Nat.lt_of_lt_of_le hi h.b6)).trans (h.but.block i hi hn)⟩
   moved:=h.moved.ofBlock (k.block _ h.b4)
   cells:=h.cells.below_ k (fun b o e h0=>h.b5 b o e (by simpa [natInts,keysI] using h0))
   b1:=h.b1
   b2:=h.b2
   b3:=h.b3
   b4:=h.b4
   b5:=h.b5
   b6:=h.b6
   b7:=Nat.le_trans h.b7 k.size }
open Go.RowKit
namespace Hp
structure Act' where
 kind:Int
 a:Int
 list:List Int
 fault:Int
 n:Int
structure Sc where
 S:Hs
 res:List Int
 ats:List Int
end Hp
structure ScAt (w0 w:World) (sb:Nat) (d:Hd) (s:Hp.Sc) (p1:Option Addr) (k1:Nat) (p2:Option Addr) (k2:Nat):Prop extends HAt w d s.S where
 ext0:Ext w0 w
 h0:w.cell? ⟨sb,0,none⟩=some (.pointer (some ⟨d.hb,0,none⟩))
 h1:w.cell? ⟨sb,1,none⟩=some (.slice p1 s.res.length k1)
 h2:w.cell? ⟨sb,2,none⟩=some (.slice p2 s.ats.length k2)
 fz:∀ k,w.frozen? ⟨sb,k,none⟩=false
 r1:Row w 0 p1 k1 s.res
 r2:Row w 0 p2 k2 s.ats
 sb0:w0.heap.size<=sb
 own0:∀ b ∈ d.own,w0.heap.size<=b
 sbn:sb ∉ d.own
 n1:∀ b o,p1=some ⟨b,o,none⟩->w0.heap.size<=b/\b ∉ d.own/\b ≠ sb
 n2:∀ b o,p2=some ⟨b,o,none⟩->w0.heap.size<=b/\b ∉ d.own/\b ≠ sb
 n12:∀ b o b' o',p1=some ⟨b,o,none⟩->p2=some ⟨b',o',none⟩->b ≠ b'
 spn:∀ b o,d.sp=some ⟨b,o,none⟩->b ≠ sb/\(∀ o',p1 ≠ some ⟨b,o',none⟩) /\ ∀ o',p2 ≠ some ⟨b,o',none⟩
 opn:∀ b o,d.op=some ⟨b,o,none⟩->b ≠ sb/\(∀ o',p1 ≠ some ⟨b,o',none⟩) /\ ∀ o',p2 ≠ some ⟨b,o',none⟩
theorem Row.but_ (h:Row w base p c l) {bs:List Nat} (k:But bs w w') (hb:∀ b o,p=some ⟨b,o,none⟩->b ∉ bs):Row w' base p c l:=by
 refine ⟨⟨h.1.1, ?_⟩,h.2⟩
 rcases h.1.2 with e | ⟨g,cap,cur,e,h1,hg,r⟩
 . exact .inl e
 refine .inr ⟨g,cap,cur,e,h1, ?_,r⟩
 have hl:=(Array.getElem?_eq_some_iff.1 hg).1
 injection e with e1
 rw [k.block g hl (hb g 0 e1)]
 exact hg
namespace ScAt
variable {w0 w w':World} {sb:Nat} {d:Hd} {s:Hp.Sc} {p1 p2:Option Addr} {k1 k2:Nat}
theorem lt1 (h:ScAt w0 w sb d s p1 k1 p2 k2):sb < w.heap.size:=cell_lt h.h0
theorem ext (h:ScAt w0 w sb d s p1 k1 p2 k2) (k:Ext w w'):ScAt w0 w' sb d s p1 k1 p2 k2:=
 { h with
   toHAt:=h.toHAt.ext k
   ext0:=h.ext0.trans k
   h0:=(k.cell h.lt1 0).trans h.h0
   h1:=(k.cell h.lt1 1).trans h.h1
   h2:=(k.cell h.lt1 2).trans h.h2
   fz:=fun j=>(k.frozen h.lt1 j).trans (h.fz j)
   r1:=h.r1.ext k
   r2:=h.r2.ext k }
theorem turn (h:ScAt w0 w sb d s p1 k1 p2 k2) (k:But d.own w w') (h':HAt w' { d with gw:=g,cap:=cap } S') (hg:g=d.gw \/ w.heap.size<=g):ScAt w0 w' sb { d with gw:=g,cap:=cap } { s with S:=S' } p1 k1 p2 k2:=by
 have hl:=h.lt1
 have hlt:∀ b o,(p1=some ⟨b,o,none⟩->b < w.heap.size)/\(p2=some ⟨b,o,none⟩->b < w.heap.size):=fun b o=>⟨fun e=>by
  rcases h.r1.1.2 with ⟨e',_⟩ | ⟨g',_,_,e',_,hg',_⟩
  . injection e' with e1
    rw [e] at e1
    cases e1
  . injection e' with e1
    rw [e] at e1
    cases e1
    exact (Array.getElem?_eq_some_iff.1 hg').1,fun e=>by
  rcases h.r2.1.2 with ⟨e',_⟩ | ⟨g',_,_,e',_,hg',_⟩
  . injection e' with e1
    rw [e] at e1
    cases e1
  . injection e' with e1
    rw [e] at e1
    cases e1
    exact (Array.getElem?_eq_some_iff.1 hg').1⟩
 have own:∀ b,b ∈ Hd.own { d with gw:=g,cap:=cap } -> b ∈ d.own \/ b=g:=fun b hb=>by
  simp only [Hd.own,List.mem_cons,List.not_mem_nil,or_false] at hb ⊢
  rcases hb with rfl | rfl | rfl
  . exact .inl (.inl rfl)
  . exact .inr rfl
  exact .inl (.inr (.inr rfl))
 have fresh:∀ b,b < w.heap.size->b ∉ d.own->b ∉ Hd.own { d with gw:=g,cap:=cap }:=fun b hb hn hm=>by
  rcases own b hm with h1 | rfl
  . exact hn h1
  rcases hg with rfl | hg
  . exact hn d.gw_own
  omega
 have e0:=h.ext0.le
 exact
 { toHAt:=h'
   ext0:=But.toExt h.ext0 k h.own0
   h0:=(k.cell hl h.sbn 0).trans h.h0
   h1:=(k.cell hl h.sbn 1).trans h.h1
   h2:=(k.cell hl h.sbn 2).trans h.h2
   fz:=fun j=>(k.frozen hl h.sbn j).trans (h.fz j)
   r1:=h.r1.but_ k (fun b o e=>(h.n1 b o e).2.1)
   r2:=h.r2.but_ k (fun b o e=>(h.n2 b o e).2.1)
   sb0:=h.sb0
   own0:=fun b hb=>by
    rcases own b hb with h1 | rfl
    . exact h.own0 b h1
    rcases hg with rfl | hg
    . exact h.own0 _ d.gw_own
    omega
   sbn:=fresh _ hl h.sbn
   n1:=fun b o e=>⟨(h.n1 b o e).1,fresh _ ((hlt b o).1 e) (h.n1 b o e).2.1,(h.n1 b o e).2.2⟩
   n2:=fun b o e=>⟨(h.n2 b o e).1,fresh _ ((hlt b o).2 e) (h.n2 b o e).2.1,(h.n2 b o e).2.2⟩
   n12:=h.n12
   spn:=h.spn
   opn:=h.opn }
end ScAt
open Go.RowKit
theorem Ext.grown {row:Option Nat} (h:Ext w0 w) (k:w.grownBy w' row) (hr:∀ r,row=some r->w0.heap.size<=r):Ext w0 w':=
 ⟨k.os.trans h.os,k.tape.trans h.tape,k.output.trans h.output,Nat.le_trans h.le k.size,fun i hi=>(k.block i (Nat.lt_of_lt_of_le hi h.le) (fun e=>by have:=hr i e.symm;omega)).trans (h.block i hi)⟩
open Go.RowKit Go.Maps
theorem Row.set {l':List Int} {v:Int} (h:Row w base p c l) (hp:p=some ⟨b,0,none⟩) (hw:Hp.wr l j v=some l') (h1 : -9223372036854775808<=v) (h2:v<=9223372036854775807) :
    Row (w.setCell ⟨b,j,none⟩ (.int .i64 v)) base p c l':=by
  have hl:=(HAt.wr_len hw).1;have hj:=(HAt.wr_len hw).2;unfold Hp.wr at hw;rw [if_pos hj] at hw
  cases hw
  refine ⟨⟨by simp [ints], ?_⟩,fun x hx=>?_⟩
  . rcases h.1.2 with ⟨e,_⟩ | ⟨g,cap,cur,e,hb,hg,r1,r2,r3,r4⟩
    . injection e with e1
      rw [hp] at e1
      cases e1
    injection e with e1 e2 e3
    rw [hp] at e1
    cases e1
    subst e3;refine .inr ⟨b,c,cur.setIfInBounds j (.int .i64 v),by rw [hp,hl],hb, ?_,by rw [hl];exact r1,r2,by simpa using r3, ?_⟩
    . rw [setCell_eq_setRow w b j cur _ _ _ hg,setRow_heap w b _ _ _ _ hg]
    rw [hl];simp only [Array.toList_setIfInBounds,ints,List.map_set,List.take_set];rw [r4];rfl
  rcases List.mem_or_eq_of_mem_set hx with hx | rfl
  . exact h.2 x hx
  exact ⟨h1,h2⟩
theorem ScAt.cut {W:World} {sb:Nat} {s:Hp.Sc} {p1 p2:Option Addr} {k1 k2:Nat} {P:Program} {cd:Code} {Q:Exit->Act->World->Prop} {a:Act} (h:ScAt w0 W sb d s p1 k1 p2 k2) (k:∀ w',ScAt w0 w' sb d s p1 k1 p2 k2->cd.wp P Q a w'):cd.wp P Q a W:=k W h
section
variable {P:Program} {ops:Array Oper} {Q:Exit->Act->World->Prop} {md:Region.Mode} {S:World->Prop} {n G:Nat}
theorem wpOp_value {oi:Oper} {v:Value} {K:Act->World->Prop} {a:Act} {w'':World} (hi:ops[i]? = some oi) (hw:Region.wanted oi (yielded ops a.tmps)=true)
    (hrun:(execOp a.eval oi).run P w = .ok (.value v) w'') (hk:K (a.put oi.dst v) w''):wpOp P ops Q i K a w:=by
  unfold wpOp;simp only [hi];rw [if_pos hw];refine .inl ?_;unfold Oper.wp;rw [hrun];exact hk
end
theorem row_own (hrow:Row w base p c l):∀ r,(Value.slice p l.length c).ownBlock=some r->p=some ⟨r,0,none⟩:=fun r hr=>by
 cases p with
 | none=>simp [Value.ownBlock] at hr
 | some q=>
  have hr':q.block=r:=by simpa [Value.ownBlock] using hr
  subst hr'
  rcases hrow.1.2 with ⟨e,_⟩ | ⟨g',cap',cur,e,h1,_⟩
  . injection e with e1
    cases e1
  injection e with e1
  rw [Option.some.inj e1]
structure ScB (w0 w:World) (sb:Nat) (d:Hd) (S:Hp.Hs) (v1 v2:Value) (p1:Option Addr) (k1:Nat) (res:List Int) (p2:Option Addr) (k2:Nat) (ats:List Int):Prop extends HAt w d S where
 ext0:Ext w0 w
 h0:w.cell? ⟨sb,0,none⟩=some (.pointer (some ⟨d.hb,0,none⟩))
 h1:w.cell? ⟨sb,1,none⟩=some v1
 h2:w.cell? ⟨sb,2,none⟩=some v2
 fz:∀ k,w.frozen? ⟨sb,k,none⟩=false
 r1:Row w 0 p1 k1 res
 r2:Row w 0 p2 k2 ats
 sb0:w0.heap.size<=sb
 own0:∀ b ∈ d.own,w0.heap.size<=b
 sbn:sb ∉ d.own
 n1:∀ b o,p1=some ⟨b,o,none⟩->w0.heap.size<=b/\b ∉ d.own/\b ≠ sb
 n2:∀ b o,p2=some ⟨b,o,none⟩->w0.heap.size<=b/\b ∉ d.own/\b ≠ sb
 n12:∀ b o b' o',p1=some ⟨b,o,none⟩->p2=some ⟨b',o',none⟩->b ≠ b'
 spn:∀ b o,d.sp=some ⟨b,o,none⟩->b ≠ sb/\(∀ o',p1 ≠ some ⟨b,o',none⟩) /\ ∀ o',p2 ≠ some ⟨b,o',none⟩
 opn:∀ b o,d.op=some ⟨b,o,none⟩->b ≠ sb/\(∀ o',p1 ≠ some ⟨b,o',none⟩) /\ ∀ o',p2 ≠ some ⟨b,o',none⟩
namespace ScB
variable {w0 w w':World} {sb:Nat} {d:Hd} {S:Hp.Hs} {v1 v2:Value} {p1 p2:Option Addr} {k1 k2:Nat} {res ats:List Int}
theorem lt1 (h:ScB w0 w sb d S v1 v2 p1 k1 res p2 k2 ats):sb < w.heap.size:=cell_lt h.h0
theorem ext (h:ScB w0 w sb d S v1 v2 p1 k1 res p2 k2 ats) (k:Ext w w'):ScB w0 w' sb d S v1 v2 p1 k1 res p2 k2 ats:=
 { h with
   toHAt:=h.toHAt.ext k
   ext0:=h.ext0.trans k
   h0:=(k.cell h.lt1 0).trans h.h0
   h1:=(k.cell h.lt1 1).trans h.h1
   h2:=(k.cell h.lt1 2).trans h.h2
   fz:=fun j=>(k.frozen h.lt1 j).trans (h.fz j)
   r1:=h.r1.ext k
   r2:=h.r2.ext k }
theorem stored (h:ScB w0 w sb d S v1 v2 p1 k1 res p2 k2 ats):ScAt w0 ((w.setCell ⟨sb,1,none⟩ (.slice p1 res.length k1)).setCell ⟨sb,2,none⟩ (.slice p2 ats.length k2)) sb d ⟨S,res,ats⟩ p1 k1 p2 k2:=by
 have k:But [sb] w ((w.setCell ⟨sb,1,none⟩ (.slice p1 res.length k1)).setCell ⟨sb,2,none⟩ (.slice p2 ats.length k2)):=((But.refl _ _).setCell (.inl (by simp)) _).setCell (.inl (by simp)) _
 have o:∀ x ∈ d.own,x ∉ [sb]:=fun x hx hm=>by
  have:x=sb:=by simpa using hm
  subst this;exact h.sbn hx
 exact
 { toHAt:=h.toHAt.but k (o _ d.hb_own) (o _ d.gw_own) (o _ d.gm_own) (fun b o e hm=>(h.spn b o e).1 (by simpa using hm)) (fun b o e hm=>(h.opn b o e).1 (by simpa using hm))
   ext0:=Ext.setCell (Ext.setCell h.ext0 h.sb0 _) h.sb0 _
   h0:=by simpa [go_sem] using h.h0
   h1:=by
    have:=World.cell?_setCell_same (w:=w) ⟨sb,1,none⟩ (.slice p1 res.length k1) h.h1
    simpa [go_sem] using this
   h2:=World.cell?_setCell_same _ _ _ (by simpa [go_sem] using h.h2)
   fz:=fun j=>by simpa [go_sem] using h.fz j
   r1:=h.r1.but_ k (fun b o e hm=>(h.n1 b o e).2.2 (by simpa using hm))
   r2:=h.r2.but_ k (fun b o e hm=>(h.n2 b o e).2.2 (by simpa using hm))
   sb0:=h.sb0
   own0:=h.own0
   sbn:=h.sbn
   n1:=h.n1
   n2:=h.n2
   n12:=h.n12
   spn:=h.spn
   opn:=h.opn }
end ScB
namespace Hp
theorem isEnd_of {fault:Int} (h0:0<=fault) (h4:fault<=4):isEnd (20+fault)=true:=by
 simp [isEnd,within]
 omega
theorem new_end {fault n:Int} (h0:0<=fault) (h4:fault<=4) (hn:fault > 0->n=0) (h1 : -9999<=n) (h2:n<=9999):New S (20+fault) [n]:=by
 have he:=isEnd_of h0 h4
 refine ⟨by simp [okTag,he],by simp [wz,he],fun _ x hx=>?_,fun h=>?_,fun h=>?_⟩
 . have:x=n:=by simpa using hx
   subst this;exact ⟨h1,h2,fun h=>hn (by omega)⟩
 . rw [he] at h;cases h
 rw [he] at h;cases h
structure Grown (S S':Hs):Prop where
 sizes:S'.sizes=S.sizes
 order:S'.order=S.order
 len:S'.words.length=S.words.length
theorem Grown.refl (S:Hs):Grown S S:=⟨rfl,rfl,rfl⟩
theorem Grown.trans {A B C:Hs} (h:Grown A B) (k:Grown B C):Grown A C:=⟨k.sizes.trans h.sizes,k.order.trans h.order,k.len.trans h.len⟩
theorem Wf.more {B':Nat} {ch:Nat->List Nat} (h:Wf S B L ch) (hB:B<=B') (hb:B'<=9223372036854775807):Wf S B' L ch:=
 { h with bd:=hb,holds:=fun a ha=>by have:=h.holds a ha;omega }
theorem laters_total {S:Hs} {B:Nat} {L:List Tl} {ch:Nat->List Nat} (h:Wf S B L ch) (c:Int):∀ (l:List Int),(∀ x ∈ l,S.has x=true) -> ∃ b,S.laters c l=some b/\(b=true ↔ ∀ x ∈ l,∃ k ∈ S.taken,x=(k:Int)/\rank S.order (c+1) < rank S.order (ow S.words k))
 | [],_=>⟨true,rfl,by simp⟩
 | x :: l,hl=>by
  obtain ⟨k,rfl,hk⟩:=has_yes (hl x (by simp));obtain ⟨b,h1,h2⟩:=laters_total h c l fun y hy=>hl y (by simp [hy])
  have ht:=h.tag_le hk;unfold Hs.laters;rw [show adr (k:Int)=some k by simp [adr]];simp only [Option.bind_eq_bind,Option.bind_some,h.tag_ hk];rw [ck_in (by omega) (by omega)];simp only [Option.bind_some]
  by_cases hr:rank S.order (ow S.words k) > rank S.order (c+1)
  . rw [if_pos hr,h1];refine ⟨b,rfl,h2.trans ⟨fun hh y hy=>?_,fun hh y hy=>hh y (by simp [hy])⟩⟩
    rcases List.mem_cons.1 hy with rfl | hy
    . exact ⟨k,hk,rfl,hr⟩
    exact hh y hy
  rw [if_neg hr];refine ⟨false,rfl,⟨(fun h=>by cases h),fun hh=>?_⟩⟩;obtain ⟨k',hk',e,hr'⟩:=hh (k:Int) (by simp);have:k=k':=by omega
  subst this;exact absurd hr' hr
theorem new_node {ch:Nat->List Nat} (h:Wf S B L ch) {c:Int} (h1:isNode S.sizes (c+1)=true) (h2:l.length=wz S.sizes (c+1)-4) (h3:∀ x ∈ l,∃ k ∈ S.taken,x=(k:Int)/\rank S.order (c+1) < rank S.order (ow S.words k)) (h4:Hs.alike l=false):New S (c+1) l:=by
 have hne:isEnd (c+1)=false:=by
  have:=h.fr.few;simp only [isNode,within,Bool.and_eq_true,decide_eq_true_eq] at h1;simp [isEnd,within];omega
 exact ⟨by simp [okTag,h1],h2,(fun he=>by rw [hne] at he;cases he),fun _=>h3,fun _=>h4⟩
end Hp
open Go.RowKit Go.Maps
structure ActOk (x:Hp.Act') (f:Nat):Prop where
 k0:0<=x.kind
 fault:x.fault=f
 f2:f < 256
 n1 : -9223372036854775808<=x.n
 n2:x.n<=9223372036854775807
 a1 : -9223372036854775808<=x.a
 a2:x.a<=9223372036854775807
 len:x.list.length<=1000
structure ScOk (s:Hp.Sc) (j:Nat):Prop where
 res:s.res.length=j
 ats:s.ats.length=j
 pos:∀ a ∈ s.ats,0<=a
theorem ScOk.heap {s:Hp.Sc} (h:ScOk s j) (S:Hp.Hs):ScOk { s with S:=S } j:=⟨h.res,h.ats,h.pos⟩
namespace Hp
def prodM (l:List Int):Int:=l.foldl (fun n s=>min 3000 (n * s)) 1
theorem prodM_snoc (l:List Int) (x:Int):prodM (l ++ [x])=min 3000 (prodM l * x):=by simp [prodM,List.foldl_append]
theorem prod_min:∀ (l:List Int) (a:Int),(∀ s ∈ l,1<=s/\s<=12)->1<=a->l.foldl (fun n s=>min 3000 (n * s)) (min 3000 a)=min 3000 (l.foldl (· * ·) a)/\1<=l.foldl (· * ·) a
 | [],a,_,ha=>⟨rfl,ha⟩
 | x :: l,a,h,ha=>by
  obtain ⟨h1,h2⟩:=h x (by simp);have hx:1<=a * x:=by
   have:=Int.mul_le_mul ha h1 (by omega) (by omega);omega
  obtain ⟨i1,i2⟩:=prod_min l (a * x) (fun s hs=>h s (by simp [hs])) hx;refine ⟨?_,i2⟩;simp only [List.foldl_cons];rw [show min 3000 (min 3000 a * x)=min 3000 (a * x) from ?_]
  . exact i1
  by_cases hc:a<=3000
  . rw [Int.min_eq_right hc]
  rw [Int.min_eq_left (show (3000:Int)<=a by omega)];have e1:(3000:Int)<=3000 * x:=by omega
  have e2:(3000:Int)<=a * x:=by
   have:=Int.mul_le_mul (show (3000:Int)<=a by omega) h1 (by omega) (by omega);omega
  rw [Int.min_eq_left e1,Int.min_eq_left e2]
theorem prodM_is (h:∀ s ∈ l,1<=s/\s<=12):prodM l=min 3000 (l.foldl (· * ·) 1)/\1<=l.foldl (· * ·) 1:=by
 have:=prod_min l 1 h (by omega)
 exact this
theorem prodM_big (h:∀ s ∈ l,1<=s/\s<=12):prodM l > 2000 ↔ l.foldl (· * ·) 1 > 2000:=by
 rw [(prodM_is h).1]
 omega
def OrdTo (n:Nat) (o:List Int) (i:Nat):Prop:=∀ k x,k < i->rd o k=some x->(0<=x/\x<=(n:Int)-1) /\ ∀ m y,m < k->rd o m=some y->y ≠ x
def OrdOk (n:Nat) (o:List Int):Prop:=o.length=n/\OrdTo n o n
theorem OrdOk.nodup (h:OrdOk n o):o.Nodup:=by
 rw [List.nodup_iff_pairwise_ne,List.pairwise_iff_getElem]
 intro i j hi hj hij e
 have:=(h.2 j o[j] (by have:=h.1;omega) (by unfold rd;rw [List.getElem?_eq_getElem])).2 i o[i] hij (by unfold rd;rw [List.getElem?_eq_getElem])
 exact this e
theorem OrdOk.rng (h:OrdOk n o):∀ x ∈ o,0<=x/\x < n:=fun x hx=>by
 obtain ⟨i,hi,rfl⟩:=List.getElem_of_mem hx
 have:=(h.2 i o[i] (by have:=h.1;omega) (by unfold rd;rw [List.getElem?_eq_getElem])).1
 omega
theorem mem_upto:x ∈ upto n ↔ 0<=x/\x < n:=by
 unfold upto
 rw [List.mem_map]
 constructor
 . rintro ⟨k,hk,rfl⟩;have:=List.mem_range.1 hk;omega
 intro h
 exact ⟨x.toNat,List.mem_range.2 (by omega),by omega⟩
theorem nodup_lenI:∀ {l m:List Int},l.Nodup->(∀ a ∈ l,a ∈ m)->l.length<=m.length
 | [],_,_,_=>Nat.zero_le _
 | a :: r,m,hp,hm=>by
  have ha:a ∈ m:=hm a (by simp);obtain ⟨h1,h2⟩:=List.nodup_cons.1 hp;have:=nodup_lenI (l:=r) (m:=m.erase a) h2 (fun b hb=>(List.mem_erase_of_ne (by rintro rfl;exact h1 hb)).2 (hm b (by simp [hb])));rw [List.length_erase_of_mem ha] at this;have:=List.length_pos_of_mem ha;simp only [List.length_cons];omega
theorem upto_up (n:Nat):(upto n).Pairwise (· < ·):=by
 unfold upto
 rw [List.pairwise_map]
 exact List.pairwise_lt_range.imp fun h=>by omega
theorem full_perm (hl:o.length=n) (hn:o.Nodup) (hr:∀ x ∈ o,0<=x/\x < n):o.Perm (upto n):=by
 have hsub:∀ x ∈ upto n,x ∈ o:=fun x hx=>by
  apply Classical.byContradiction;intro hne;have:=nodup_lenI (l:=x :: o) (m:=upto n) (List.nodup_cons.2 ⟨hne,hn⟩) (fun a ha=>by
   rcases List.mem_cons.1 ha with rfl | ha
   . exact hx
   . exact mem_upto.2 (hr a ha))
  rw [upto_length] at this;simp only [List.length_cons] at this;omega
 refine (List.perm_ext_iff_of_nodup hn ((upto_up n).imp fun h=>by omega)).2 fun a=>⟨fun ha=>mem_upto.2 (hr a ha),hsub a⟩
theorem ordOk_iff:OrdOk n o ↔ sortI o=upto n:=by
 constructor
 . intro h;refine List.Perm.eq_of_pairwise (le:=fun a b:Int=>a<=b) (fun a b _ _ h1 h2=>by omega) (sorted_sortI o) ((upto_up n).imp fun h=>by omega) ((perm_sortI o).trans (full_perm h.1 h.nodup h.rng))
 intro h
 have hp:o.Perm (upto n):=h ▸ (perm_sortI o).symm
 have hl:o.length=n:=by rw [hp.length_eq,upto_length]
 have hn:o.Nodup:=hp.nodup_iff.2 ((upto_up n).imp fun h=>by omega)
 refine ⟨hl,fun k x hk hx=>⟨?_,fun m y hm hy e=>?_⟩⟩
 . have:=mem_upto.1 (hp.mem_iff.1 (List.mem_of_getElem? hx));omega
 obtain ⟨l1,e1⟩:=List.getElem?_eq_some_iff.1 hx
 obtain ⟨l2,e2⟩:=List.getElem?_eq_some_iff.1 hy
 rw [List.nodup_iff_pairwise_ne,List.pairwise_iff_getElem] at hn
 exact hn m k l2 l1 hm (by rw [e1,e2];exact e)
theorem frameErr_ok (h:frameErr z o=0):FrOk z o/\z.foldl (· * ·) 1<=2000:=by
 unfold frameErr at h
 split at h
 . cases h
 split at h
 . cases h
 split at h
 . cases h
 split at h
 . rename_i h1 h2 h3 h4;have ho:=ordOk_iff.2 h4;have hp:o.Perm (upto z.length):=h4 ▸ (perm_sortI o).symm;refine ⟨{ few:=by omega,pos:=fun s hs=>?_,len:=ho.1,perm:=fun i hi=>hp.mem_iff.2 (mem_upto.2 (by omega)),rng:=ho.rng,nodup:=ho.nodup },by omega⟩;have h2':z.all (fun n=>decide (1<=n) && decide (n<=12))=true:=by simpa using h2
   have:=List.all_eq_true.1 h2' s hs
   simpa using this
 cases h
end Hp
namespace Hp
end Hp
namespace Nd
open Hp
structure Bnd (d:Dia) (t:List Int × List Int):Prop where
 n1:t.1.Nodup
 n2:t.2.Nodup
 b1:∀ x ∈ t.1,0<=x/\x < d.nodes.length
 b2:∀ x ∈ t.2,0<=x/\x < d.ends.length
theorem Bnd.len {d:Dia} {t:List Int × List Int} (h:Bnd d t):t.1.length<=d.nodes.length/\t.2.length<=d.ends.length:=by
 have h1:=nodup_lenI (m:=upto d.nodes.length) h.n1 fun a ha=>mem_upto.2 (h.b1 a ha)
 have h2:=nodup_lenI (m:=upto d.ends.length) h.n2 fun a ha=>mem_upto.2 (h.b2 a ha)
 rw [upto_len] at h1 h2
 exact ⟨h1,h2⟩
theorem Bnd.start (d:Dia):Bnd d ([],[]):=⟨by simp,by simp,by simp,by simp⟩
end Nd
namespace Hp
end Hp
namespace Hp
theorem ow_set {v:Int} (h:i < W.length):ow (W.set i v) j=if j=i then v else ow W j:=by
 obtain ⟨W',h1,_,h3⟩:=wr_ow v h
 unfold wr at h1
 rw [if_pos h] at h1
 cases h1
 exact h3 j
theorem ow_set_ne {v:Int} (h:i < W.length) (hn:j ≠ i):ow (W.set i v) j=ow W j:=by rw [ow_set h,if_neg hn]
theorem ow_set_eq {v:Int} (h:i < W.length):ow (W.set i v) i=v:=by rw [ow_set h,if_pos rfl]
def Loose (L:List Tl) (j:Nat):Prop:=j=16 \/ ∃ t ∈ L,t.fr=true/\t.a+2<=j/\j < t.a+t.k
structure Near (L:List Tl) (W V:List Int):Prop where
 len:W.length=V.length
 eq:∀ j,¬ Loose L j->ow W j=ow V j
structure Linking (L P:List Tl) (a:Nat) (W V:List Int):Prop extends Near L W V where
 done:∀ j,Loose L j->j < a->j ≠ lastL 16 P->ow W j=ow V j
structure Zeroing (L:List Tl) (t:Tl) (i:Nat) (W V:List Int):Prop extends Near L W V where
 done:∀ j,Loose L j->j < i->j ≠ t.a+2->ow W j=ow V j
section
variable {V:List Int} {z:List Int} {L P Q:List Tl} {n a:Nat} {W:List Int}
theorem loose_in (hl:Lay 17 L n) {t:Tl} (ht:t ∈ L) (h:Loose L j) (h1:t.a<=j) (h2:j < t.a+t.k):t.fr=true/\t.a+2<=j:=by
 have m:=hl.mem ht
 rcases h with rfl | ⟨u,hu,hf,u1,u2⟩
 . omega
 rcases hl.sep ht hu with e | h | h
 . subst e;exact ⟨hf,u1⟩
 . omega
 omega
theorem Near.part (h:Near L W V) (hl:Lay 17 L n) {t:Tl} (ht:t ∈ L):ow W t.a=ow V t.a/\ow W (t.a+1)=ow V (t.a+1):=by
 have m:=hl.mem ht
 exact ⟨h.eq _ fun hj=>by have:=(loose_in hl ht hj (by omega) (by omega)).2;omega,h.eq _ fun hj=>by have:=(loose_in hl ht hj (by omega) (by omega)).2;omega⟩
theorem Linking.start (h:Near L W V) (hl:Lay 17 L n):Linking L [] 17 W V:=
 { h with
   done:=fun j hj h17 hne=>by
    rcases hj with rfl | ⟨u,hu,hf,u1,u2⟩
    . exact absurd rfl hne
    . have:=hl.mem hu;omega }
theorem Linking.cell (h:Linking L P a W V) (hl:Lay 17 L n) {t:Tl} (ht:t ∈ L) (ha:t.a=a) (hf:t.fr=false):Linking L (P ++ [t]) (a+t.k) W V:=
 { h.toNear with
   done:=fun j hj h1 hne=>by
    have e:lastL 16 (P ++ [t])=lastL 16 P:=by
     rw [lastL_app];simp [lastL,hf]
    rw [e] at hne
    by_cases hja:j < a
    . exact h.done j hj hja hne
    . have:=loose_in hl ht hj (by omega) (by omega);rw [hf] at this
      cases this.1 }
theorem Linking.free (h:Linking L P a W V) {t:Tl} (hL:L=P ++ t :: Q) (hp:Parts (ow V) z L V.length) (ha:t.a=a) (hf:t.fr=true):lastL 16 P < W.length/\Zeroing L t (a+3) (W.set (lastL 16 P) (a:Int)) V:=by
 have ht:t ∈ L:=by rw [hL];simp
 have m:=hp.lay.mem ht
 have hlay:=hp.lay
 rw [hL] at hlay
 obtain ⟨q1,q2,q3⟩:=hlay.parts
 have g:=lastL_lt q1 (show 16 < 17 by omega)
 have hlk:=hp.links
 rw [hL] at hlk
 have k2:=(Links.app.1 hlk).2
 unfold Links at k2
 rw [hf] at k2
 simp only [if_true] at k2
 have hlen:=h.len
 have hlt:lastL 16 P < W.length:=by omega
 have hloose:Loose L (lastL 16 P):=by
  rcases @lastL_is 16 P with e | ⟨u,hu,huf,e⟩
  . exact .inl e
  have:=q1.mem hu;exact .inr ⟨u,by rw [hL];simp [hu],huf,by omega,by omega⟩
 refine ⟨hlt,⟨⟨by simpa using hlen,fun j hj=>?_⟩,fun j hj h1 h2=>?_⟩⟩
 . have hne:j ≠ lastL 16 P:=fun e=>hj (by rw [e];exact hloose)
   rw [ow_set_ne hlt hne];exact h.eq j hj
 by_cases e:j=lastL 16 P
 . rw [e,ow_set_eq hlt,k2.1,ha]
 rw [ow_set_ne hlt e]
 by_cases hja:j < a
 . exact h.done j hj hja e
 have:=loose_in hp.lay ht hj (by omega) (by omega)
 omega
theorem Zeroing.step {t:Tl} (h:Zeroing L t i W V) (hp:Parts (ow V) z L V.length) (ht:t ∈ L) (hf:t.fr=true) (h1:t.a+3<=i) (h2:i < t.a+t.k):i < W.length/\Zeroing L t (i+1) (W.set i 0) V:=by
 have m:=hp.lay.mem ht
 have hlen:=h.len
 have hlt:i < W.length:=by omega
 have hloose:Loose L i:=.inr ⟨t,ht,hf,by omega,by omega⟩
 refine ⟨hlt,⟨⟨by simpa using hlen,fun j hj=>?_⟩,fun j hj k1 k2=>?_⟩⟩
 . have hne:j ≠ i:=fun e=>hj (by rw [e];exact hloose)
   rw [ow_set_ne hlt hne];exact h.eq j hj
 by_cases e:j=i
 . rw [e,ow_set_eq hlt,((hp.ok t ht).free hf).2.2 i h1 h2]
 rw [ow_set_ne hlt e]
 exact h.done j hj (by omega) k2
theorem Zeroing.fin {t:Tl} (h:Zeroing L t (t.a+t.k) W V) (hf:t.fr=true):Linking L (P ++ [t]) (t.a+t.k) W V:=
 { h.toNear with
   done:=fun j hj h1 hne=>by
    have e:lastL 16 (P ++ [t])=t.a+2:=by
     rw [lastL_app];simp [lastL,hf]
    rw [e] at hne;exact h.done j hj h1 hne }
end
end Hp
namespace Hp
section
variable {S:Hs} {B:Nat} {L:List Tl} {ch:Nat->List Nat} {t:Int} {fs:List Int} {a k:Nat} {W:List Int}
theorem New.wide (h:Wf S B L ch) (hn:New S t fs):wz S.sizes t=4+fs.length/\1<=fs.length/\fs.length<=12:=by
 have h1:=wz_ok h.fr.toFr hn.tag
 have:=hn.len
 omega
theorem Fits.le {w:Nat} {u:Tl} (h:Fits w u):w<=u.k/\(w < u.k->w+3<=u.k):=by
 rcases h with h | h <;> omega
end
end Hp
namespace Hp
section
variable {S:Hs} {B:Nat} {L P Q:List Tl} {ch:Nat->List Nat} {a:Nat} {W:List Int}
end
def mk (D:List Nat) (t:Tl):Tl:={ t with fr:=t.fr || D.contains t.a }
structure Marked (S:Hs) (W2:List Int) (D:List Nat) (W:List Int):Prop where
 len:W.length=W2.length
 dead:∀ b ∈ D,ow W b=0/\ow W (b+1)=wz S.sizes (ow S.words b)
 other:∀ j,(∀ b ∈ D,j ≠ b/\j ≠ b+1)->ow W j=ow W2 j
theorem Marked.start (S:Hs) (W2:List Int):Marked S W2 [] W2:=⟨rfl,by simp,fun _ _=>rfl⟩
theorem Marked.step {W2:List Int} {D:List Nat} (h:Marked S W2 D W) (hlt:b+1 < W2.length) (hD:∀ c ∈ D,c ≠ b/\c+1 ≠ b/\c ≠ b+1):Marked S W2 (D ++ [b]) ((W.set b 0).set (b+1) (wz S.sizes (ow S.words b):Nat)):=by
 have hl:=h.len
 have h1:b < W.length:=by omega
 have h2:b+1 < (W.set b 0).length:=by simp;omega
 refine ⟨by simpa using hl,fun c hc=>?_,fun j hj=>?_⟩
 . rcases List.mem_append.1 hc with hc | hc
   . have:=hD c hc;rw [ow_set_ne h2 (by omega),ow_set_ne h1 (by omega),ow_set_ne h2 (by omega),ow_set_ne h1 (by omega)];exact h.dead c hc
   have:c=b:=by simpa using hc
   subst this;rw [ow_set_ne h2 (by omega),ow_set_eq h1,ow_set_eq h2];exact ⟨rfl,rfl⟩
 have:=hj b (by simp)
 rw [ow_set_ne h2 this.2,ow_set_ne h1 this.1]
 exact h.other j fun c hc=>hj c (by simp [hc])
end Hp
namespace Hp
def KidOf (S:Hs) (Y:List Nat) (a:Nat):Prop:=∃ y ∈ Y,(a:Int) ∈ kz (ow S.words) S.sizes y
def Wants (S:Hs) (Y:List Nat) (a:Nat):Prop:=0 < ow S.words (a+2) \/ KidOf S Y a
structure Finding (S:Hs) (T Y:List Nat):Prop where
 nodup:Y.Nodup
 sub:∀ y ∈ Y,y ∈ T
def ShutTo (S:Hs) (Y:List Nat) (i:Nat):Prop:=∀ k a,k < i->S.taken[k]? = some a->Wants S Y a->a ∈ Y
section
variable {S:Hs} {B:Nat} {L:List Tl} {ch:Nat->List Nat} {T Y:List Nat}
theorem Finding.start (S:Hs) (T:List Nat):Finding S T []:=⟨List.nodup_nil,by simp⟩
theorem live_in (h:Wf S B L ch) (hT:S.live=some T):(∀ a ∈ T,a ∈ S.taken)/\T.Pairwise (· < ·):=by
 obtain ⟨T',hT',t1,t2,_⟩:=h.live_
 rw [hT] at hT'
 cases hT'
 exact ⟨t2,t1⟩
theorem Finding.add (h:Wf S B L ch) (hT:S.live=some T) (F:Finding S T Y) (ha:a ∈ S.taken) (hn:a ∉ Y) (hw:Wants S Y a):Finding S T (Y ++ [a]):=by
 obtain ⟨T',hT',t1,t2,t3,t4,_⟩:=h.live_
 rw [hT] at hT'
 cases hT'
 refine ⟨List.nodup_append.2 ⟨F.nodup,by simp,fun x hx y hy=>?_⟩,fun y hy=>?_⟩
 . have:y=a:=by simpa using hy
   subst this;exact fun e=>hn (e ▸ hx)
 rcases List.mem_append.1 hy with hy | hy
 . exact F.sub y hy
 have:y=a:=by simpa using hy
 subst this
 rcases hw with hw | ⟨z,hz,hk⟩
 . exact t3 y ha hw
 exact t4 z (F.sub z hz) y hk
theorem Finding.len (h:Wf S B L ch) (hT:S.live=some T) (F:Finding S T Y):Y.length<=T.length/\Y.length<=S.taken.length:=by
 have h1:=nodup_len F.nodup F.sub
 have h2:=nodup_len F.nodup fun y hy=>(live_in h hT).1 y (F.sub y hy)
 exact ⟨h1,h2⟩
theorem Finding.fin (h:Wf S B L ch) (hT:S.live=some T) (F:Finding S T Y) (hs:ShutTo S Y S.taken.length):(∀ a,a ∈ Y ↔ a ∈ T)/\Y.length=T.length:=by
 obtain ⟨T',hT',t1,t2,t3,t4,t5⟩:=h.live_
 rw [hT] at hT'
 cases hT'
 have shut:∀ a ∈ S.taken,Wants S Y a->a ∈ Y:=fun a ha hw=>by
  obtain ⟨k,hk,e⟩:=List.getElem_of_mem ha;exact hs k a hk (by rw [List.getElem?_eq_getElem hk,e]) hw
 have sup:∀ a ∈ T,a ∈ Y:=t5 Y (fun a ha hp=>shut a ha (.inl hp)) fun a ha b hb=>by
  obtain ⟨b',hb',e,_⟩:=h.cells.kids a (t2 a (F.sub a ha)) _ hb;have:b=b':=by omega
  subst this;exact shut b hb' (.inr ⟨a,ha,hb⟩)
 refine ⟨fun a=>⟨F.sub a,sup a⟩, ?_⟩
 have:=nodup_len F.nodup F.sub
 have:=nodup_len (up_nodup t1) sup
 omega
def natsI (Y:List Nat):List Int:=Y.map fun a:Nat=>(a:Int)
theorem natsI_mem {Y:List Nat}:(a:Int) ∈ natsI Y ↔ a ∈ Y:=by
 unfold natsI
 rw [List.mem_map]
 constructor
 . rintro ⟨b,hb,e⟩;have:b=a:=by omega
   exact this ▸ hb
 exact fun h=>⟨a,h,rfl⟩
theorem natsI_contains {Y:List Nat}:(natsI Y).contains (a:Int)=Y.contains a:=by
 rw [Bool.eq_iff_iff]
 simp only [List.contains_iff_mem]
 exact natsI_mem
theorem natsI_len (Y:List Nat):(natsI Y).length=Y.length:=by simp [natsI]
theorem natsI_app (Y Z:List Nat):natsI (Y ++ Z)=natsI Y ++ natsI Z:=by simp [natsI]
theorem natsI_rd {Y:List Nat} (h:Y[j]? = some a):rd (natsI Y) j=some (a:Int):=by
 simp [rd,natsI,h]
end
end Hp
namespace Hp
theorem ccOf_snoc {S:Hs} {m:Nat->Nat} {a:Nat}:∀ {d:List Nat} {cc:Nat->List Nat} {c:Nat},ccOf S m (d ++ [a]) cc c=if c=cz (ow S.words a) (nz (ow S.words) S.sizes m a) then m a :: ccOf S m d cc c else ccOf S m d cc c
 | [],cc,c=>rfl
 | b :: d,cc,c=>by
  rw [List.cons_append];unfold ccOf;exact ccOf_snoc
theorem ccOf_mem {S:Hs} {m:Nat->Nat} {x c:Nat}:∀ {d:List Nat} {cc:Nat->List Nat},x ∈ ccOf S m d cc c->x ∈ cc c \/ ∃ b ∈ d,x=m b
 | [],cc,h=>.inl h
 | b :: d,cc,h=>by
  unfold ccOf at h
  rcases ccOf_mem h with h | ⟨b',hb',e⟩
  . split at h
    . rcases List.mem_cons.1 h with rfl | h
      . exact .inr ⟨b,by simp,rfl⟩
      exact .inl h
    exact .inl h
  exact .inr ⟨b',by simp [hb'],e⟩
structure Packing (S:Hs) (m:Nat->Nat) (i:Nat) (V:List Int):Prop where
 len:V.length=S.words.length
 done:∀ b ∈ S.taken.take i,ow V (m b)=ow S.words b/\ow V (m b+1)=ow S.words (b+1)/\ow V (m b+2)=ow S.words (b+2) /\ ∀ k,k < wz S.sizes (ow S.words b)-4->ow V (m b+4+k)=(nz (ow S.words) S.sizes m b).getD k 0
 path:∀ c,c < 16->Path (ow V) c (ccOf S m (S.taken.take i) (fun _=>[]) c)
 rest:∀ j,j=16 \/ 17<=j/\(∀ b ∈ S.taken.take i,j < m b \/ m b+wz S.sizes (ow S.words b)<=j)->ow V j=0
structure Filling (S:Hs) (m:Nat->Nat) (a:Nat) (V0:List Int) (k:Nat) (V:List Int):Prop where
 len:V.length=S.words.length
 three:ow V (m a)=ow S.words a/\ow V (m a+1)=ow S.words (a+1)/\ow V (m a+2)=ow S.words (a+2)
 fld:∀ j,j < k->ow V (m a+4+j)=(nz (ow S.words) S.sizes m a).getD j 0
 other:∀ j,(j < m a \/ m a+wz S.sizes (ow S.words a)<=j)->ow V j=ow V0 j
section
variable {S:Hs} {B:Nat} {L:List Tl} {ch:Nat->List Nat} {m:Nat->Nat} {next i a:Nat} {V V0:List Int}
structure Goes (S:Hs) (m:Nat->Nat) (next:Nat):Prop where
 top:next<=S.words.length
 rng:∀ b ∈ S.taken,17<=m b/\m b+wz S.sizes (ow S.words b)<=next
 up:∀ a ∈ S.taken,∀ b ∈ S.taken,a < b->m a+wz S.sizes (ow S.words a)<=m b
theorem Goes.ne (g:Goes S m next) (ha:a ∈ S.taken) (hb:b ∈ S.taken) (hne:a ≠ b):m a+wz S.sizes (ow S.words a)<=m b \/ m b+wz S.sizes (ow S.words b)<=m a:=by
 rcases Nat.lt_or_ge a b with h | h
 . exact .inl (g.up a ha b hb h)
 exact .inr (g.up b hb a ha (by omega))
theorem Packing.start (n:Nat) (hn:S.words.length=n):Packing S m 0 (List.replicate n 0):=
 ⟨by simp [hn],by simp,fun c hc=>by simp only [List.take_zero];exact ow_rep _ _,fun j _=>ow_rep _ _⟩
theorem Filling.step (h:Wf S B L ch) (g:Goes S m next) (hat:a ∈ S.taken) (F:Filling S m a V0 k V) (hk:k < wz S.sizes (ow S.words a)-4):m a+4+k < V.length/\Filling S m a V0 (k+1) (V.set (m a+4+k) ((nz (ow S.words) S.sizes m a).getD k 0)):=by
 have r:=g.rng a hat
 have t:=g.top
 have p:=h.part hat
 have hl:=F.len
 have hlt:m a+4+k < V.length:=by omega
 refine ⟨hlt,by simpa using hl,⟨?_, ?_, ?_⟩,fun j hj=>?_,fun j hj=>?_⟩
 . rw [ow_set_ne hlt (by omega)];exact F.three.1
 . rw [ow_set_ne hlt (by omega)];exact F.three.2.1
 . rw [ow_set_ne hlt (by omega)];exact F.three.2.2
 . by_cases e:j=k
   . subst e;rw [ow_set_eq hlt]
   rw [ow_set_ne hlt (by omega)];exact F.fld j (by omega)
 rw [ow_set_ne hlt (by omega)]
 exact F.other j hj
theorem take_mem_succ (ha:T[i]? = some a):b ∈ T.take (i+1) ↔ b ∈ T.take i \/ b=a:=by
 obtain ⟨hl,rfl⟩:=List.getElem?_eq_some_iff.1 ha
 rw [List.take_succ_eq_append_getElem hl,List.mem_append,List.mem_singleton]
theorem take_lt (h:T.Pairwise (· < ·)) (ha:T[i]? = some a) (hb:b ∈ T.take i):b ∈ T/\b < a:=by
 refine ⟨List.mem_of_mem_take hb, ?_⟩
 obtain ⟨k,hk,e⟩:=List.getElem_of_mem hb
 rw [List.getElem_take] at e
 obtain ⟨hl,rfl⟩:=List.getElem?_eq_some_iff.1 ha
 rw [<- e]
 rw [List.length_take] at hk
 exact List.pairwise_iff_getElem.1 h k i (by omega) hl (by omega)
theorem Filling.done (h:Wf S B L ch) (g:Goes S m next) (P:Packing S m i V0) (ha:S.taken[i]? = some a) (F:Filling S m a V0 (wz S.sizes (ow S.words a)-4) V) (hc:cz (ow S.words a) (nz (ow S.words) S.sizes m a)=c) :
    m a+3 < V.length/\c < V.length/\ow (V.set (m a+3) (ow V c)) c=ow V c/\Packing S m (i+1) ((V.set (m a+3) (ow V c)).set c (m a:Int)):=by
  have hat:=List.mem_of_getElem? ha;have r:=g.rng a hat;have t:=g.top;have p:=h.part hat;have hl:=F.len;have hc16:c < 16:=hc ▸ cz_lt _ _;have h1:m a+3 < V.length:=by omega
  have h2:c < (V.set (m a+3) (ow V c)).length:=by simp;omega
  have e:∀ j,ow ((V.set (m a+3) (ow V c)).set c (m a:Int)) j=if j=c then (m a:Int) else if j=m a+3 then ow V c else ow V j:=fun j=>by
   rw [ow_set h2,ow_set h1]
  have old:∀ b ∈ S.taken.take i,b ∈ S.taken/\m b+wz S.sizes (ow S.words b)<=m a/\17<=m b/\5<=wz S.sizes (ow S.words b):=fun b hb=>by
   obtain ⟨q1,q2⟩:=take_lt h.up ha hb;exact ⟨q1,g.up b q1 a hat q2,(g.rng b q1).1,(h.part q1).2.2.2.1⟩
  have G:∀ j,(j < m a \/ m a+wz S.sizes (ow S.words a)<=j)->j ≠ c->ow ((V.set (m a+3) (ow V c)).set c (m a:Int)) j=ow V0 j:=fun j hj hne=>by
   rw [e,if_neg hne,if_neg (by omega),F.other j hj]
  refine ⟨h1,by omega,by rw [ow_set_ne h1 (by omega)],by simpa using hl,fun b hb=>?_,fun c' hc'=>?_,fun j hj=>?_⟩
  . rcases (take_mem_succ ha).1 hb with hb | rfl
    . obtain ⟨q0,q1,q2,q3⟩:=old b hb;obtain ⟨d1,d2,d3,d4⟩:=P.done b hb;exact ⟨(G _ (by omega) (by omega)).trans d1,(G _ (by omega) (by omega)).trans d2,(G _ (by omega) (by omega)).trans d3,fun k hk=>(G _ (by omega) (by omega)).trans (d4 k hk)⟩
    have X:∀ j,j ≠ 3->j < wz S.sizes (ow S.words b)->ow ((V.set (m b+3) (ow V c)).set c (m b:Int)) (m b+j)=ow V (m b+j):=fun j hj _=>by rw [e,if_neg (by omega),if_neg (by omega)]
    refine ⟨(X 0 (by omega) (by omega)).trans F.three.1,(X 1 (by omega) (by omega)).trans F.three.2.1,(X 2 (by omega) (by omega)).trans F.three.2.2,fun k hk=>?_⟩;rw [show m b+4+k=m b+(4+k) by omega,X _ (by omega) (by omega),<- Nat.add_assoc];exact F.fld k hk
  . have et:S.taken.take (i+1)=S.taken.take i ++ [a]:=by
      obtain ⟨hl',rfl⟩:=List.getElem?_eq_some_iff.1 ha;exact List.take_succ_eq_append_getElem hl'
    rw [et,ccOf_snoc,hc];have p0:=P.path c' hc';have far:∀ x ∈ ccOf S m (S.taken.take i) (fun _=>[]) c',ow ((V.set (m a+3) (ow V c)).set c (m a:Int)) (x+3)=ow V0 (x+3):=fun x hx=>by
     rcases ccOf_mem hx with hx | ⟨b,hb,rfl⟩
     . cases hx
     obtain ⟨q0,q1,q2,q3⟩:=old b hb;exact G _ (by omega) (by omega)
    by_cases ec:c'=c
    . subst ec;rw [if_pos rfl];refine ⟨by rw [e,if_pos rfl],by omega,p0.move ?_ far⟩;rw [e,if_neg (by omega),if_pos rfl];exact F.other _ (by omega)
    rw [if_neg ec];exact p0.congr (G _ (by omega) ec) far
  have hj':j=16 \/ 17<=j/\(∀ b ∈ S.taken.take i,j < m b \/ m b+wz S.sizes (ow S.words b)<=j):=by
   rcases hj with hj | ⟨hj,hn⟩
   . exact .inl hj
   exact .inr ⟨hj,fun b hb=>hn b ((take_mem_succ ha).2 (.inl hb))⟩
  have hja:j < m a \/ m a+wz S.sizes (ow S.words a)<=j:=by
   rcases hj with hj | ⟨hj,hn⟩
   . omega
   exact hn a ((take_mem_succ ha).2 (.inr rfl))
  rw [G j hja (by omega)];exact P.rest j hj'
end
end Hp
end Go.Proofs.YtdokmmhjmclmnaaGreat
