/- Part 7 of a proof. -/
import Derived.Deep.CutBlock
import Derived.RangeFuncNested
import Derived.Test.YtdokmmhjmclmnaaGreatMU06
set_option linter.unusedSimpArgs false
set_option linter.unusedVariables false
set_option linter.unusedSectionVars false
set_option linter.unnecessarySimpa false
set_option maxHeartbeats 8000000
set_option maxRecDepth 100000
namespace Go.Proofs.YtdokmmhjmclmnaaGreat
open Go.Proofs.Tryz
variable {W' w w' w0 wb:World} {B a b bx c ca cap ce cn f g i j k lb m n qc:Nat} {choice e t x:Int} {A W fs ks l o z:List Int} {D T Y:List Nat} {p p2 pa pe pn q:Option Addr} {d:Hd} {S S':Hp.Hs} {M:List (Nat × Int)}
open Go.RowKit
def Gives {α:Type} (F:Fence) (n:Nat) (P:Program) (g:Nat) (first:Array Value) (encs:α->Array Value) (K:World->Prop) (L:List α):Prop:=
 ∀ (l:Nat) (J:List α->World->Prop) (W:World),(∀ pre W1,J pre W1->K W1)->(∀ pre W1 W2,J pre W1->Ext W1 W2->J pre W2) ->
  (∀ pre x r W1,L=pre ++ x :: r->J pre W1->YieldAt F (n-1) P l (encs x) W1 fun e W'=>e = .returned (.bool true)/\J (pre ++ [x]) W')->J [] W ->
  CallsIn F n P g (first ++ #[.func (.yield l) #[] #[]]) W fun e W'=>(∃ v,e = .returned v)/\J L W'
structure Rest (B:Nat) (W W':World):Prop where
 size:W.heap.size<=W'.heap.size
 same:∀ k,B<=k->k < W.heap.size->W'.heap[k]? = W.heap[k]?
theorem Rest.refl (B:Nat) (W:World):Rest B W W:=⟨H0c _,fun _ _ _=>rfl⟩
theorem Rest.trans {a b c:World} (h:Rest B a b) (k:Rest B b c):Rest B a c:=
 ⟨G5c h.size k.size,fun i hi hl=>(k.same i hi (x4b hl h.size)).trans (h.same i hi hl)⟩
theorem Rest.ext {a b c:World} (h:Rest B a b) (k:Ext b c):Rest B a c:=h.trans ⟨k.le,fun i _ hl=>k.block i hl⟩
theorem Rest.setCell {a b:World} (h:Rest B a b) {p:Addr} (hp:p.block < B) (v:Value):Rest B a (b.setCell p v):=
 ⟨by simpa [World.setCell] using h.size,fun k hk hl=>by rw [Below.heap_setCell _ _ _ _ (by omega)];exact h.same k hk hl⟩
theorem O9a {W:World} (o:Obj) (hb:B<=b):Below B W (W.putObj b o):=
 ⟨rfl,rfl,rfl,by simp,fun k hk=>s1b (by omega)⟩
variable {F:Fence} {n:Nat} {P:Program}
theorem K4b {α:Type} {g:Operand} {ps:Array Tmp} {assign body:Code} {Q:Exit->Act->World->Prop} {a:Act} 
    (hro:F.round=none) (h1:1<=n) {gf:Nat} {first:Array Value} (hg:a.eval g = .func (.func gf) first #[]) (hFg:F.fn gf) (eg:∀ args w,(callFunc gf args).run P w = .ok (.enter gf args) w)
    {encs:α->Array Value} {K:World->Prop} {L:List α} (hseq:Gives F (n-1) P gf first encs K L) (hps:∀ x,(encs x).size=ps.size)
    (I:List α->World->Prop) (hI:∀ pre W W',I pre W->w.heap.size<=W.heap.size->Below w.heap.size W W'->I pre W') (hK:∀ pre W,I pre W->K W) (h0:I [] w) (a₁:α->Act)
    (hassign:∀ (l:Nat) (x:α) (W:World) (G:Act->World->Prop),G (a₁ x) W ->
     assign.wpIn (F.inRound l) (n-1-1) P (Exit.then G (fun _ _ _=>False)) { tmps:=(ps.zip (encs x)).foldl (fun t (p,v)=>t.setIfInBounds p v) a.tmps,defers:=[] } W)
    (hbody:∀ (l:Nat) (pre:List α) (x:α) (r:List α) (W:World),L=pre ++ x :: r->I pre W->w.heap.size<=W.heap.size ->
     body.wpIn (F.inRound l) (n-1-1) P (fun e _ W'=>e = .normal/\Rest w.heap.size W W'/\I (pre ++ [x]) W') (a₁ x) W)
    (hdone:∀ (W:World),I L W->w.heap.size<=W.heap.size->W.heap[w.heap.size]? = some (.deferred (some []))->Q .normal { a with defers:={ target:=.collected w.heap.size,args:=#[] } :: a.defers } W) :
    (Code.rangeFunc g ps assign body).wpIn F n P Q a w:=by
  refine wpIn_rangeFunc fun fn hfn=>?_
  rw [hro];obtain ⟨rec,hrec⟩:∃ rec:LoopState->Option Code->Loop,rec=fun st pe=>{ state:=st,pending:=pe,fn,tmps:=a.tmps,params:=ps,assign,body,defers:=w.heap.size }:=⟨_,rfl⟩
  obtain ⟨W1,hW1⟩:∃ W1,(w.alloc (.deferred (some []))).alloc (.loop (rec .ready none))=W1:=⟨_,rfl⟩
  have hE1:Below w.heap.size w W1:=by
   rw [<- hW1];exact ((Below.refl _ w).alloc (H0c _) _).alloc (by simp) _
  have hz1:W1.heap.size=w.heap.size+2:=by rw [<- hW1];simp
  have hL1:W1.heap[w.heap.size+1]? = some (.loop (rec .ready none)):=by
   rw [<- hW1];have:=u6b (w.alloc (.deferred (some []))) (.loop (rec .ready none))
   rwa [World.size_alloc] at this
  have hK1:W1.heap[w.heap.size]? = some (.deferred (some [])):=by
   rw [<- hW1];exact (Below.heap_alloc _ _ _ (by simp)).trans (u6b w _)
  refine ⟨w.heap.size+1,[{ target:=.collected w.heap.size,args:=#[] }],W1,{ target:=.fn (.func gf) #[],args:=first ++ #[.func (.yield (w.heap.size+1)) #[] #[]] },W1,gf,
   first ++ #[.func (.yield (w.heap.size+1)) #[] #[]],W1, ?_, ?_, ?_, ?_,fun _=>h1, ?_⟩
  . rw [<- hW1,hrec];exact run_enterLoop_outer _ _ _ _ _
  . simp only [resolve,hg];simp [go_sem]
  . intro f' hf';simp [Target.leads] at hf';subst hf';exact hFg
  . simp [invoke,go_sem,eg]
  refine (hseq (w.heap.size+1)
   (fun pre W=>I pre W/\w.heap.size+2<=W.heap.size/\W.heap[w.heap.size+1]? = some (.loop (rec .ready none))/\W.heap[w.heap.size]? = some (.deferred (some []))) W1
   (fun pre W h=>hK pre W h.1)
   (fun pre A B h k=>⟨hI pre A B h.1 (by omega) (Below.mono k (by omega)),G5c h.2.1 k.le,(k.block _ (by omega)).trans h.2.2.1,(k.block _ (by omega)).trans h.2.2.2⟩)
   ?_ ⟨hI _ _ _ h0 (H0c _) hE1,by omega,hL1,hK1⟩).mono ?_
  . rintro pre x r W hLx ⟨hi,hsz,hl,hk⟩;have hy:=run_yield (P:=P) (args:=encs x) hl (by rw [hrec];exact hps x);rw [hrec] at hy;refine ⟨fn,_,assign,body,hy,roundIn_of_wpIn hfn (hassign _ x W _ ⟨_,run_beginRound hl (by rw [hrec]), ?_⟩)⟩;have hl2:(W.putObj (w.heap.size+1) (.loop { rec .ready none with state:=.busy })).heap[w.heap.size+1]? = some (.loop { rec .ready none with state:=.busy }):=World.putObj_heap_same (by omega);have hk2:(W.putObj (w.heap.size+1) (.loop { rec .ready none with state:=.busy })).heap[w.heap.size]? = some (.deferred (some [])):=(s1b (by omega)).trans hk;refine wpIn_mono (hbody _ pre x r _ hLx (hI _ _ _ hi (by omega) (O9a _ (by omega))) (by simp;omega)) ?_;rintro e a3 W3 ⟨rfl,hr3,hi3⟩;have hs3:=hr3.size;simp only [World.putObj_size] at hs3;have hl3:=(hr3.same (w.heap.size+1) (by omega) (by simp;omega)).trans hl2;have hk3:=(hr3.same w.heap.size (by omega) (by simp;omega)).trans hk2;have hend:=run_endRound (P:=P) none hl3;simp only [Option.isNone_none,H2c] at hend;refine ⟨_,_,hend,rfl,hI _ _ _ hi3 (by omega) (O9a (b:=w.heap.size+1) _ (by omega)), ?_, ?_, ?_⟩
    . simp only [World.putObj_size];omega
    . have:=World.putObj_heap_same (w:=W3) (r:=w.heap.size+1) (o:=.loop (rec .ready none)) (by omega);rw [hrec] at this ⊢;exact this
    exact (s1b (w:=W3) (r:=w.heap.size+1) (k:=w.heap.size) (by omega)).trans hk3
  rintro e W2 ⟨⟨v,rfl⟩,hi,hsz,hl,hk⟩;have hend:=run_endLoop (P:=P) hl (by rw [hrec];simp);rw [hrec] at hend;exact ⟨none,_,hend,hdone _ (hI _ _ _ hi (by omega) (O9a _ (by omega))) (by simp;omega) ((s1b (by omega)).trans hk)⟩
def Hp.Hs.C8a (S:Hp.Hs):Nat->Nat->Option (List (Nat × Nat))
 | 0,_=>none
 | n+1,a=>do
  if S.words.length<=a then some [] else
  let w0 <- Hp.rd S.words (a+1)
  let t <- S.tag a
  let k <- (if t=0 then Hp.adr w0 else Hp.wide S.sizes t:Option Nat)
  if 1000000 < k then none else
  let r <- S.C8a n (a+k)
  some ((a,k) :: r)
theorem O1a {L:List (Nat × Nat)} (h:S.C8a n a=some L) :
    (S.words.length<=a/\L=[]) \/ (a < S.words.length /\ ∃ n' x t k r,n=n'+1/\Hp.rd S.words (a+1)=some x/\S.tag a=some t/\((t ≠ 0/\Hp.wide S.sizes t=some k) \/ (t=0/\x=(k:Int)))/\k<=1000000/\L=(a,k) :: r/\S.C8a n' (a+k)=some r):=by
  cases n with
  | zero=>simp [Hp.Hs.C8a] at h
  | succ n=>
   unfold Hp.Hs.C8a at h
   split at h
   . rename_i hge;exact .inl ⟨hge,by simpa using h.symm⟩
   rename_i hlt;simp only [v9b,s0b] at h;obtain ⟨x,hx,t,ht,k,hk,h⟩:=h
   split at h
   . cases h
   rename_i hkl;simp only [s0b,z7b] at h;obtain ⟨r,hr,rfl⟩:=h;refine .inr ⟨by omega,n,x,t,k,r,rfl,hx,ht, ?_,by omega,rfl,hr⟩
   split at hk
   . rename_i h0;exact .inr ⟨h0,Z8a hk⟩
   rename_i h0;exact .inl ⟨h0,hk⟩
theorem pieces_len {S:Hp.Hs}:∀ {n a:Nat} {L:List (Nat × Nat)},S.C8a n a=some L->L.length<=n
 | 0,a,L,h=>by simp [Hp.Hs.C8a] at h
 | n+1,a,L,h=>by
  rcases O1a h with ⟨_,rfl⟩ | ⟨_,n',x,t,k,r,hn,_,_,_,_,rfl,hr⟩
  . simp
  obtain rfl:n=n':=by omega
  have:=pieces_len hr;simp;omega
theorem n4a {α:Type} {L r:List α} {x:α} (h:L.drop j=x :: r):L.take (j+1)=L.take j ++ [x]:=by
 have hl:j < L.length:=by
  have:=congrArg List.length h;simp at this;omega
 rw [p5b hl]
 rw [q8b hl] at h
 rw [(F6c h).1]
theorem n8a {α:Type} {L r:List α} {x:α} (h:L.drop j=x :: r):L.drop (j+1)=r:=by
 rw [<- List.drop_drop,h]
 rfl
def encC (x:Nat × Nat):Array Value:=#[.int .i64 (x.1:Int),.int .i64 (x.2:Int)]
theorem E0b {L:List (Nat × Nat)} (hr:S.C8a S.fuel 17=some L) :
    Gives Fence.wide 4 prog 75 #[.pointer (some ⟨d.hb,0,none⟩)] encC (fun W=>HAt W d S) L:=by
  intro l J W hK hE hY h0;refine callsIn_wide.2 ?_;have H:=hZ (hK _ _ h0);have KK:=hZ hK;have EE:=hZ hE;have YY:=hZ hY;have J0:=hZ h0;have HR:=hZ (show S.C8a S.fuel 17=some (L.drop 0) from hr);have sm:=H.out.small;obtain ⟨n,hn⟩:∃ n,S.words.length=n:=⟨_,rfl⟩
  have EN:=hZ hn;rw [hn] at sm;clear hK hE hY h0 hr hn;show Calls prog 75 #[.pointer (some ⟨d.hb,0,none⟩),.func (.yield l) #[] #[]] W _;go_enter func75,ntmps75
  go_wp2_with fail
  go_loopg [4] (L.length+1) (fun g i wr=>∃ (j a m:Nat),j<=L.length/\L.length-j+1<=g/\i = .int .i64 a/\a<=2000000/\Hid (J (L.take j) wr)/\Hid (S.C8a m a=some (L.drop j)))
  case atStart=>exact ⟨0,17,S.fuel,by omega,by omega,rfl,by omega,J0,HR⟩
  case round=>
   obtain ⟨j,a,m,hj,hg,rfl,ha,JJ,HC⟩:=hrel;clear J0 HR H;have H:=hZ (KK.out _ _ JJ.out);have c2:=H.out.c2;rw [EN.out] at c2;have hle:=H.out.le;have hcap:=H.out.cap;rw [EN.out] at hle
   rcases O1a HC.out with ⟨hge,hnil⟩ | ⟨hlt,m',y,t,k,r,-,hy,ht,hk,hkl,hcons,hrest⟩
   . rw [EN.out] at hge;have hjl:L.take j=L:=s6b (by simpa using hnil);have JL:=hZ (hjl ▸ JJ.out)
     go_wp2_with fail
     go_returns;exact ⟨⟨_,rfl⟩,JL.out⟩
   rw [EN.out] at hlt;have hyl:=G0a hy;rw [EN.out] at hyl;have gy:=H.out.words.get hy;have HT:=hZ ht;have HCONS:=hZ hcons;have HREST:=hZ hrest;have c0:=H.out.c0;have c1:=H.out.c1;have z1:=H.out.lt;have hjl:j < L.length:=by
    have:=congrArg List.length hcons;simp at this;omega
   have tk:decide ((a:Int) < (n:Int))=true:=by simpa using (by omega:(a:Int) < (n:Int))
   clear hy ht hcons hrest HC
   rcases hk with ⟨h0,hk⟩ | ⟨rfl,rfl⟩
   . have HK:=hZ hk;have t0:(t != 0)=true:=by simpa using h0
     clear hk h0;go_upto_region 4 with (go_at_call 76;refine m4_ (F4a H.out.c2 rfl H.out.le H.out.cap H.out.words HT.out) fun w1 hb1 hc1 hf1 hs1=>?_)
     clear c2 gy tk;have H1:=hZ (H.out.ext hb1);have J1:=hZ (EE.out _ _ _ JJ.out hb1);have c0:=H1.out.c0;have c1:=H1.out.c1;have z1:=H1.out.lt;have pr13a:=Ext.r c0
     have pr13b:=Ext.r c1
     refine rg0 w1 ?_
     refine' tkd 0 ?_;refine' tkd 2 ?_;refine' tkd 4 ?_;refine' tkC 6 (.int .i64 t) 76 (fun w hE=>F4a (H1.out.ext hE).c2 rfl H1.out.le H1.out.cap (H1.out.ext hE).words HT.out) ?_;refine' tkC 7 (.int .i64 k) 123 (fun w hE=>V7a (H1.out.ext hE).sizes HK.out (by omega)) ?_;refine' tkL 8 ?_;refine A0a (by kernel_rfl) ?_ _;intro x1 _ Ex1;clear pr13a pr13b;have J2:=hZ (EE.out _ _ _ J1.out Ex1);obtain ⟨fn,tmps,assign,body,hy,hR⟩:=YY.out (L.take j) (a,k) r x1 (by rw [<- HCONS.out,t8b]) J2.out;dsimp only [encC] at hy;go_upto_region 5 with (fail)
     refine (wpIn_wide (n:=4)).1 ?_
     gi_wp2
     refine hR.mono ?_;rintro e w3 ⟨rfl,J3⟩
     gi_wp2
     go_wp2_with fail
     go_roundg (L.length-(j+1)+1)
     case measure=>omega
     case rel=>exact ⟨j+1,a+k,m',by omega,H0c _,by go_num,by omega,hZ (by rw [n4a HCONS.out];exact J3),hZ (by rw [n8a HCONS.out];exact HREST.out)⟩
   have tk0:((0:Int) != 0)=false:=rfl;go_upto_region 5 with (go_at_call 76;refine m4_ (F4a H.out.c2 rfl H.out.le H.out.cap H.out.words HT.out) fun w1 hb1 hc1 hf1 hs1=>?_)
   clear c2 gy tk;have J2:=hZ (EE.out _ _ _ JJ.out hb1);obtain ⟨fn,tmps,assign,body,hy,hR⟩:=YY.out (L.take j) (a,k) r w1 (by rw [<- HCONS.out,t8b]) J2.out;dsimp only [encC] at hy;refine (wpIn_wide (n:=4)).1 ?_
   gi_wp2
   refine hR.mono ?_;rintro e w3 ⟨rfl,J3⟩
   gi_wp2
   go_wp2_with fail
   go_roundg (L.length-(j+1)+1)
   case measure=>omega
   case rel=>exact ⟨j+1,a+k,m',by omega,H0c _,by go_num,by omega,hZ (by rw [n4a HCONS.out];exact J3),hZ (by rw [n8a HCONS.out];exact HREST.out)⟩
open Go.RowKit Go.Maps
attribute [local go_sem] Oper.semAt_some
def Hp.Hs.B5a (S:Hp.Hs) (L:List (Nat × Nat)):Nat × Nat:=L.foldl (fun q x=>if S.tag x.1=some 0 then (q.1+x.2,max q.2 x.2) else q) (0,0)
theorem L7a {a:World} {p:Addr} {u:Value} (h:∀ k:Nat,w.heap[k]? = a.heap[k]?) (hc:a.cell? p=some u):∀ k:Nat,(w.setCell p u).heap[k]? = a.heap[k]? :=
 fun k=>(a3a (by rw [World.cell?_of_block (h _)];exact hc) k).trans (h k)
theorem O8a (S:Hp.Hs) (L:List (Nat × Nat)) (x:Nat × Nat):S.B5a (L ++ [x])=if S.tag x.1=some 0 then ((S.B5a L).1+x.2,max (S.B5a L).2 x.2) else S.B5a L:=by
 simp [Hp.Hs.B5a,z0b]
theorem b5a {S:Hp.Hs}:∀ {n a:Nat} {L:List (Nat × Nat)},S.C8a n a=some L -> ∀ x ∈ L,(∃ t,S.tag x.1=some t)/\x.2<=1000000
 | 0,a,L,h=>by simp [Hp.Hs.C8a] at h
 | n+1,a,L,h=>by
  rcases O1a h with ⟨_,rfl⟩ | ⟨_,n',x,t,k,r,hn,_,ht,_,hk,rfl,hr⟩
  . simp
  intro y hy
  rcases E6c.1 hy with rfl | hy
  . exact ⟨⟨t,ht⟩,hk⟩
  exact b5a hr y hy
theorem Z1a {S:Hp.Hs}:∀ (r pre:List (Nat × Nat)),(∀ x ∈ pre ++ r,x.2<=1000000)->(S.B5a pre).1<=1000000 * pre.length->(S.B5a pre).2<=1000000->(S.B5a (pre ++ r)).1<=1000000 * (pre ++ r).length/\(S.B5a (pre ++ r)).2<=1000000
 | [],pre,_,h1,h2=>by simpa using ⟨h1,h2⟩
 | x :: r,pre,h,h1,h2=>by
  have hx:=h x (by simp)
  have:=Z1a (S:=S) r (pre ++ [x]) (fun y hy=>h y (by simpa using hy)) (by
   rw [O8a,w2b,t7b]
   split
   . show (S.B5a pre).1+x.2<=_;omega
   . omega) (by
   rw [O8a]
   split
   . show max (S.B5a pre).2 x.2<=_;omega
   . exact h2)
  rw [show pre ++ x :: r=(pre ++ [x]) ++ r by simp];exact this
theorem N5b {L:List (Nat × Nat)} (h:∀ x ∈ L,x.2<=1000000):(S.B5a L).1<=1000000 * L.length/\(S.B5a L).2<=1000000:=by
 simpa using Z1a (S:=S) L [] (by simpa using h) (by simp [Hp.Hs.B5a]) (by simp [Hp.Hs.B5a])
theorem HAt.below_ (h:HAt w d S) (k:Below B w w') (ho:∀ b ∈ d.own,b < B) (h1:∀ b o,d.sp=some ⟨b,o,none⟩->b < B) (h2:∀ b o,d.op=some ⟨b,o,none⟩->b < B):HAt w' d S:=by
 have kb:But (List.range' B (w.heap.size-B)) w w':=⟨k.os,k.tape,k.output,k.size,fun i hi hn=>k.block i (by
  rcases G3c i B with h | h
  . exact h
  . exact absurd (List.mem_range'_1.2 ⟨h,by omega⟩) hn)⟩
 have key:∀ b,b < B->b ∉ List.range' B (w.heap.size-B):=fun b hb hm=>by
  have:=(List.mem_range'_1.1 hm).1;omega
 exact h.but kb (key _ (ho _ d.S2a)) (key _ (ho _ d.L6a)) (key _ (ho _ d.I7a)) (fun b o e=>key _ (h1 b o e)) (fun b o e=>key _ (h2 b o e))
structure T8a (w0:World) (d:Hd) (S:Hp.Hs) (B n m:Nat) (pre:List (Nat × Nat)) (W:World):Prop where
 at_:HAt W d S
 ext:Ext w0 W
 box:W.cell? ⟨B,0,none⟩=some (.pointer (some ⟨d.hb,0,none⟩))
 s0:W.cell? ⟨B+1,0,none⟩=some (.int .i64 n)
 s1:W.cell? ⟨B+1,1,none⟩=some (.int .i64 m)
 s2:W.cell? ⟨B+1,2,none⟩=some (.int .i64 (S.B5a pre).1)
 s3:W.cell? ⟨B+1,3,none⟩=some (.int .i64 (S.B5a pre).2)
 fz:∀ k,W.frozen? ⟨B+1,k,none⟩=false
theorem Ext.trans' {a b c:World} (h:Ext a b) (k:Below B b c) (hB:a.heap.size<=B):Ext a c:=Below.trans h (Below.mono k hB)
namespace T8a
variable {w0 W W':World} {d:Hd} {S:Hp.Hs} {B n m:Nat} {pre:List (Nat × Nat)}
theorem ext_ (h:T8a w0 d S B n m pre W) (k:Ext W W'):T8a w0 d S B n m pre W':=
 have z0:=cell_lt h.box
 have z1:=cell_lt h.s0
 { at_:=h.at_.ext k,ext:=h.ext.trans k,box:=k.q h.box,s0:=k.q h.s0,s1:=k.q h.s1,s2:=k.q h.s2,s3:=k.q h.s3,fz:=fun j=>(k.frozen z1 j).trans (h.fz j) }
theorem skip (h:T8a w0 d S B n m pre W) (ht:S.tag a=some t) (h0:¬ t=0):T8a w0 d S B n m (pre ++ [(a,k)]) W:=by
 have e:S.B5a (pre ++ [(a,k)])=S.B5a pre:=by
  rw [O8a,H4c];rw [ht]
  simpa using h0
 exact { at_:=h.at_,ext:=h.ext,box:=h.box,s0:=h.s0,s1:=h.s1,s2:=by rw [e];exact h.s2,s3:=by rw [e];exact h.s3,fz:=h.fz }
theorem step (h:T8a w0 d S w0.heap.size n m pre W) {x y:Nat} (ht:S.tag a=some 0) (hx:(S.B5a pre).1=x) (hy:(S.B5a pre).2=y) (own0:∀ b ∈ d.own,b < w0.heap.size) (h1:∀ b o,d.sp=some ⟨b,o,none⟩->b < w0.heap.size) (h2:∀ b o,d.op=some ⟨b,o,none⟩->b < w0.heap.size) :
    T8a w0 d S w0.heap.size n m (pre ++ [(a,k)]) ((W.setCell ⟨w0.heap.size+1,2,none⟩ (.int .i64 ((x:Int)+(k:Int)))).setCell ⟨w0.heap.size+1,3,none⟩ (.int .i64 (max (y:Int) (k:Int)))):=by
  have e:S.B5a (pre ++ [(a,k)])=(x+k,max y k):=by
   rw [O8a,H5c ht,hx,hy]
  have kb:But [w0.heap.size+1] W ((W.setCell ⟨w0.heap.size+1,2,none⟩ (.int .i64 ((x:Int)+(k:Int)))).setCell ⟨w0.heap.size+1,3,none⟩ (.int .i64 (max (y:Int) (k:Int)))):=((But.refl _ _).setCell (.inl (by simp)) _).setCell (.inl (by simp)) _;have o1:=own0 _ d.S2a;have o2:=own0 _ d.L6a;have o3:=own0 _ d.I7a;exact
  { at_:=h.at_.but kb (by simp;omega) (by simp;omega) (by simp;omega) (fun b o e=>by have:=h1 b o e;simp;omega) (fun b o e=>by have:=h2 b o e;simp;omega)
    ext:=Ext.setCell (Ext.setCell h.ext (by simp) _) (by simp) _
    box:=by simpa [go_sem] using h.box
    s0:=by simpa [go_sem] using h.s0
    s1:=by simpa [go_sem] using h.s1
    s2:=by
     rw [e];have:=r5b (w:=W) ⟨w0.heap.size+1,2,none⟩ (.int .i64 ((x:Int)+(k:Int))) h.s2
     simpa [go_sem] using this
    s3:=by
     rw [e];have h3:(W.setCell ⟨w0.heap.size+1,2,none⟩ (.int .i64 ((x:Int)+(k:Int)))).cell? ⟨w0.heap.size+1,3,none⟩=some (.int .i64 (S.B5a pre).2):=by simpa [go_sem] using h.s3
     have:=r5b (w:=W.setCell ⟨w0.heap.size+1,2,none⟩ (.int .i64 ((x:Int)+(k:Int)))) ⟨w0.heap.size+1,3,none⟩ (.int .i64 (max (y:Int) (k:Int))) h3;rw [this]
     congr 2
     simp only;omega
    fz:=fun j=>by simpa [go_sem] using h.fz j }
end T8a
theorem q4a {P:Program} {c:Code} {K:Act->World->Prop} {Q:Exit->Act->World->Prop} {a:Act} (h:c.wp P (Exit.then K fun _ _ _=>False) a w):c.wp P (Exit.then K Q) a w:=
 wp_mono h fun e a w he=>by
  cases e
  case normal=>exact he
  all_goals exact False.elim he
theorem Y1b {L:List (Nat × Nat)} (h:HAt w d S) (hl:S.live=some T) (hp:S.C8a S.fuel 17=some L) :
    Calls prog 21 #[.pointer (some ⟨d.hb,0,none⟩)] w (Rt w (.tuple #[.agg #[.int .i64 S.taken.length,.int .i64 T.length,.int .i64 (S.B5a L).1,.int .i64 (S.B5a L).2],.int .i64 0])):=by
  have H:=hZ h;have HL:=hZ hl;have HP:=hZ hp;clear h hl hp;refine (callsIn_wide (n:=5)).1 (callsIn_of_wp_marks func21 rfl trivial ?_ rfl);simp only [ntmps21,List.size_toArray,A5c,C8c,Nat.reduceAdd,Nat.reduceSub,Array.replicate_succ,Array.replicate_zero,List.push_toArray,List.append_toArray,C1c,A6c];refine wpIn_wide.2 ?_;go_upto_region 3 with (go_at_call 72;refine m4_ (C7a (H.out.ext exx)) fun w1 hb1 hc1 hf1 hs1=>?_;obtain ⟨hz1_0,hc1_0,hf1_0⟩:=c3_ hb1 w.heap.size;obtain ⟨hz1_1,hc1_1,hf1_1⟩:=c3_ hb1 (w.heap.size+1))
  have W1:Ext w w1:=exx;have H1:=hZ (H.out.ext W1);have b0:w1.cell? ⟨w.heap.size,0,none⟩=some (.pointer (some ⟨d.hb,0,none⟩)):=by rw [hc1_0];simp [go_sem]
  have c3:=H1.out.c3;have z0:=H1.out.lt;have hln:=fun ty=>H1.out.map.len (t:=102) underlying102 ty
  refine q4a ?_;refine wp_region_any (by kernel_rfl) ?_;have pr14a:=Ext.r c3
  have pr14b:=Ext.r b0
  have pr14c:=fun u_ (h_:Ext w1 u_)=>fun ty=>(H1.out.map.ext h_).len (t:=102) underlying102 ty
  refine B3a (S:=fun W=>Ext w1 W) (R:=Ext) 9 9 Ext.refl ?_ ?_ (by rfl)
  . exact Ext.drew exx
  refine' tkY 0 ?_;refine' tkY 1 ?_;refine' tkY 2 ?_;refine' tkY 3 ?_;refine' tkY 4 ?_;refine' tkY 5 ?_;refine' tkY 6 ?_;refine' tkX 7 (v:=.int .i64 T.length) rfl (Or.inr ⟨by rfl,74,_, ?hx7_213, ?hy7_213⟩) ?rest7_213
  case hx7_213=>(intro w hSw;go_simp;try with_reducible rfl)
  case hy7_213=>exact fun w hE=>(X2b (H1.out.ext hE) HL.out).mono (fun _ _ h=>⟨h.1,h.2,Ext.trans hE h.2⟩)
  refine layy ?_;refine' tkY 8 ?_;refine A9a (by kernel_rfl) ?_;intro x1 _ Ex1;clear pr14a pr14b pr14c;simp only [v0b,D9c];have a0:∀ k,k < 4->x1.cell? ⟨w.heap.size+1,k,none⟩=some (.int .i64 0):=fun k hk=>by
   have e:x1.cell? ⟨w.heap.size+1,k,none⟩=w1.cell? ⟨w.heap.size+1,k,none⟩:=Ex1.cell (by omega) k;rw [e,hc1_1];have:k=0 \/ k=1 \/ k=2 \/ k=3:=by omega
   rcases this with rfl | rfl | rfl | rfl <;> simp [go_sem]
  have fz:∀ k,x1.frozen? ⟨w.heap.size+1,k,none⟩=false:=fun k=>by
   have e:x1.frozen? ⟨w.heap.size+1,k,none⟩=w1.frozen? ⟨w.heap.size+1,k,none⟩:=Ex1.frozen (by omega) k;rw [e,hf1_1];simp [go_sem]
  have bx:x1.cell? ⟨w.heap.size,0,none⟩=some (.pointer (some ⟨d.hb,0,none⟩)):=Ex1.q b0;have a00:=a0 0 (by omega);have a01:=a0 1 (by omega);have f00:=fz 0;have f01:=fz 1;clear b0 c3 hln
  go_wp2_with fail
  obtain ⟨W2,hW2⟩:∃ W2,((x1.setCell ⟨w.heap.size+1,0,none⟩ (.int .i64 S.taken.length)).setCell ⟨w.heap.size+1,1,none⟩ (.int .i64 T.length))=W2:=⟨_,rfl⟩
  have E2:Ext w W2:=by
   rw [<- hW2];exact exx
  have I0:T8a w d S w.heap.size S.taken.length T.length [] W2:=by
   rw [<- hW2];have kb:But [w.heap.size+1] x1 ((x1.setCell ⟨w.heap.size+1,0,none⟩ (.int .i64 S.taken.length)).setCell ⟨w.heap.size+1,1,none⟩ (.int .i64 T.length)):=((But.refl _ _).setCell (.inl (by simp)) _).setCell (.inl (by simp)) _;have o:=H.out.D1a;have o1:=o _ d.S2a;have o2:=o _ d.L6a;have o3:=o _ d.I7a;exact
   { at_:=(H1.out.ext Ex1).but kb (by simp;omega) (by simp;omega) (by simp;omega) (fun b o e=>by have:=H.out.old1 b o e;simp;omega) (fun b o e=>by have:=H.out.old2 b o e;simp;omega)
     ext:=by rw [hW2];exact E2
     box:=by simpa [go_sem] using bx
     s0:=by simpa [go_sem] using r5b _ _ _ a00
     s1:=r5b _ _ _ (by simpa [go_sem] using a01)
     s2:=by simpa [go_sem,Hp.Hs.B5a] using a0 2 (by omega)
     s3:=by simpa [go_sem,Hp.Hs.B5a] using a0 3 (by omega)
     fz:=fun k=>by simpa [go_sem] using fz k }
  rw [hW2];have sz2:w.heap.size+1 < W2.heap.size:=cell_lt I0.s0;have IH:=hZ I0;have own0:=H.out.D1a;have old1:=H.out.old1;have old2:=H.out.old2;clear a0 fz bx a00 a01 f00 f01 I0 hc1_0 hf1_0 hc1_1 hf1_1;refine (wpIn_wide (n:=5)).1 ?_
  refine' K4b (F:=Fence.wide) (n:=5) rfl (by omega) (gf:=75) (first:=#[.pointer (some ⟨d.hb,0,none⟩)]) rfl trivial (enters_of func75 (by kernel_rfl) rfl) (E0b HP.out) (fun _=>rfl)
   (T8a w d S w.heap.size S.taken.length T.length) ?hI (fun _ _ h=>h.at_) IH.out _ ?assign ?body ?done
  case hI=>
   intro pre W W' hi hsz hb;exact
   { at_:=hi.at_.below_ hb (fun b hm=>by have:=own0 b hm;omega) (fun b o e=>by have:=old1 b o e;omega) (fun b o e=>by have:=old2 b o e;omega)
     ext:=hi.ext.trans' hb (by omega)
     box:=(hb.cell (p:=⟨w.heap.size,0,none⟩) (by simp;omega)).trans hi.box
     s0:=(hb.cell (p:=⟨w.heap.size+1,0,none⟩) (by simp;omega)).trans hi.s0
     s1:=(hb.cell (p:=⟨w.heap.size+1,1,none⟩) (by simp;omega)).trans hi.s1
     s2:=(hb.cell (p:=⟨w.heap.size+1,2,none⟩) (by simp;omega)).trans hi.s2
     s3:=(hb.cell (p:=⟨w.heap.size+1,3,none⟩) (by simp;omega)).trans hi.s3
     fz:=fun k=>(hb.frozen (p:=⟨w.heap.size+1,k,none⟩) (by simp;omega)).trans (hi.fz k) }
  case assign=>
   intro l x W K hK;dsimp only [encC]
   gi_wp2
   exact hK
  case body=>
   intro l pre x r W hLx hi hsz;obtain ⟨⟨t,ht⟩,hk⟩:=b5a HP.out x (by rw [hLx];simp);have hsm:=N5b (S:=S) (L:=pre) (fun y hy=>(b5a HP.out y (by rw [hLx];simp [hy])).2);have hpl:pre.length<=2000000:=by
    have h1:=pieces_len HP.out;have h2:=congrArg List.length hLx;have h3:=hi.at_.small;simp only [Hp.Hs.fuel,w2b,A5c] at h1 h2;omega
   have HI:=hZ hi;have HT:=hZ ht;have bx:=hi.box;clear hLx hi ht;obtain ⟨a,ha⟩:∃ a,(S.B5a pre).1=a:=⟨_,rfl⟩
   obtain ⟨m,hm⟩:∃ m,(S.B5a pre).2=m:=⟨_,rfl⟩
   obtain ⟨xa,k⟩:=x;simp only at hk HT;rw [ha,hm] at hsm;have w1:IntKind.i64.wrap ((a:Int)+(k:Int))=(a:Int)+(k:Int):=E4c _ (by omega);have HA:=hZ ha;have HM:=hZ hm;have zW:w.heap.size+1 < W.heap.size:=by omega
   clear ha hm
   by_cases h0:t=0
   . subst h0
     gi_wp2_with (refine ⟨trivial, ?_⟩;gi_at_call 76;refine (CallsIn.inRound l (callsIn_wide.2 (F4a HI.out.at_.c2 rfl HI.out.at_.le HI.out.at_.cap HI.out.at_.words HT.out))).mono ?_;rintro e w3 ⟨rfl,hb3⟩;have g2:=hb3.q HI.out.s2;have g3:=hb3.q HI.out.s3;rw [HA.out] at g2;rw [HM.out] at g3;have q2:=(hb3.frozen zW 2).trans (HI.out.fz 2);have q3:=(hb3.frozen zW 3).trans (HI.out.fz 3))
     have I3:T8a w d S w.heap.size S.taken.length T.length pre w3:=HI.out.ext_ hb3;exact ⟨Rest.setCell (Rest.setCell ((Rest.refl _ _).ext hb3) (by simp;omega) _) (by simp;omega) _,I3.step HT.out HA.out HM.out (own0:=fun b hm=>by have:=own0 b hm;omega) (fun b o e=>by have:=old1 b o e;omega) (fun b o e=>by have:=old2 b o e;omega)⟩
   have t0:(t == 0)=false:=by simpa using h0
   gi_wp2_with (refine ⟨trivial, ?_⟩;gi_at_call 76;refine (CallsIn.inRound l (callsIn_wide.2 (F4a HI.out.at_.c2 rfl HI.out.at_.le HI.out.at_.cap HI.out.at_.words HT.out))).mono ?_;rintro e w3 ⟨rfl,hb3⟩)
   exact ⟨(Rest.refl _ _).ext hb3,(HI.out.ext_ hb3).skip HT.out h0⟩
  case done=>
   intro W hi hsz hD;dsimp only;have HI:=hZ hi;have g0:=hi.s0;have g1:=hi.s1;have g2:=hi.s2;have g3:=hi.s3;have q:=hi.fz;have q0:=hi.fz 0;have q1:=hi.fz 1;have q2:=hi.fz 2;have q3:=hi.fz 3
   go_wp2_with fail
   clear q0 q1 q2 q3 g0 g1 g2 g3 q hi;obtain ⟨V,hV⟩:∃ V,((((W.setCell ⟨w.heap.size+1,0,none⟩ (.int .i64 S.taken.length)).setCell ⟨w.heap.size+1,1,none⟩ (.int .i64 T.length)).setCell ⟨w.heap.size+1,2,none⟩ (.int .i64 (S.B5a L).1)).setCell ⟨w.heap.size+1,3,none⟩ (.int .i64 (S.B5a L).2))=V:=⟨_,rfl⟩
   have hB:∀ k:Nat,V.heap[k]? = W.heap[k]? := by
    rw [<- hV];exact L7a (L7a (L7a (L7a (fun _=>rfl) HI.out.s0) HI.out.s1) HI.out.s2) HI.out.s3
   have EV:Ext w V:=by
    rw [<- hV];exact Ext.setCell (Ext.setCell (Ext.setCell (Ext.setCell HI.out.ext (by simp) _) (by simp) _) (by simp) _) (by simp) _
   rw [hV];have hD':=(hB W2.heap.size).trans hD;refine ⟨by simp,.inl ⟨_,_,rfl,run_takeDeferred hD', ?_⟩⟩;have kp:∀ j,(V.putObj W2.heap.size (.deferred none)).cell? ⟨w.heap.size+1,j,none⟩=W.cell? ⟨w.heap.size+1,j,none⟩:=fun j=>World.cell?_of_block ((s1b (by simp;omega)).trans (hB _))
   have v0:=(kp 0).trans HI.out.s0;have v1:=(kp 1).trans HI.out.s1;have v2:=(kp 2).trans HI.out.s2;have v3:=(kp 3).trans HI.out.s3;have EP:Ext w (V.putObj W2.heap.size (.deferred none)):=EV.trans' (O9a (B:=w.heap.size) _ (by omega)) (H0c _);generalize V.putObj W2.heap.size (.deferred none)=U at *;refine ⟨.tuple #[.agg #[.int .i64 S.taken.length,.int .i64 T.length,.int .i64 (S.B5a L).1,.int .i64 (S.B5a L).2],.int .i64 0], ?_,rfl,EP⟩;clear hV hB EV hD hD' HI kp;simp [results,results21,go_sem, *]
open Go.RowKit Go.Maps
section
open Go.Sort Go.Shelf
def keysI (M:List (Nat × Int)):List Nat:=M.map fun p=>p.1
end
theorem Z0a {w:World} {ops:Array Oper} {rest:List Oper} {o:Oper} {a:Act} {Q:Exit->Act->World->Prop} (hgd:o.guard=none) (s x:Operand)
    (ho:o.op = .call { callee:=.builtin .append,args:=#[s,x],argTypes:=#[22,22] }) {base c b:Nat} {p:Option Addr} {l ys:List Int} (hs:a.eval s = .slice p l.length c) (hx:a.eval x = .slice (some ⟨b,0,none⟩) ys.length ys.length) (hys0:0 < ys.length)
    (hrow:Row w base p c l) (hy:∀ j y,Hp.rd ys j=some y->w.cell? ⟨b,j,none⟩=some (.int .i64 y)) (hyb:∀ y ∈ ys,-9223372036854775808<=y/\y<=9223372036854775807) (hlen:l.length+ys.length < 10000000) (hbase:base<=w.heap.size)
    (h:∀ g cap w',Row w' base (some ⟨g,0,none⟩) cap (l ++ ys)->(∃ row,w.grownBy w' row /\ ∀ r,row=some r->base<=r)->wpList prog ops Q rest (a.put o.dst (.slice (some ⟨g,0,none⟩) (l.length+ys.length) cap)) w'):wpList prog ops Q (o :: rest) a w:=by
  obtain ⟨i0,hi,hz0,hz1,hz2⟩:=info_parts (show (prog.info? 3).map (fun i=>(i.zero,i.size,i.bytes))=some (some (.int .i64 0),1,8) from by kernel_rfl)
  refine wpList_append_lies w hgd s x 22 ho base 3 i0 (.int .i64 0) 1 8 underlying22 hi hz0 hz1 hz2 rfl (by decide) _ _ _ hs hrow.1 ⟨b,0,none⟩ ys.length ys.length (ints ys) hx (by simp [ints]) (fun j u hj=>?_) (by
      intro v hv;obtain ⟨y,_,rfl⟩:=F7c.1 hv;rfl) (by omega) (by unfold maxLen;omega) (by omega) hbase _ rfl ?_
  . unfold ints at hj;rw [y7b] at hj
    cases hq:ys[j]? with
    | none=>rw [hq] at hj;cases hj
    | some y=>
     rw [hq] at hj
     cases hj
     rw [G8c];have:=hy j y hq
     simpa using this
  intro g cap w' hown hgrow hor _;have hown':=hown;have e1:(l ++ ys).length=l.length+ys.length:=by simp
  refine h g cap w' ⟨by rw [e1];simpa [ints] using hown',fun z hz=>?_⟩ ⟨_,hgrow,fun r hr=>?_⟩
  . rcases C4c.1 hz with hz | hz
    . exact hrow.2 z hz
    exact hyb z hz
  cases p with
  | none=>simp [Value.ownBlock] at hr
  | some q=>
   have hr':q.block=r:=by simpa [Value.ownBlock] using hr
   subst hr'
   rcases hrow.1.2 with ⟨e,_⟩ | ⟨g',cap',cur,e,h1,_⟩
   . injection e with e1
     cases e1
   injection e with e1
   cases e1
   exact h1
theorem P7a {S:Hp.Hs}:∀ {L:List Nat} {V V':List Int} {next nf:Nat} {M M':List (Nat × Int)},Hp.Hs.moves S L V next M=some (V',nf,M')->V'.length=V.length /\ ∀ p ∈ M',p ∈ M \/ (p.1 ∈ L/\0<=p.2/\p.2<=V.length)
 | [],V,V',next,nf,M,M',h=>by
  obtain ⟨rfl,rfl,rfl⟩:V=V'/\next=nf/\M=M':=by simpa [Hp.Hs.moves] using h
  exact ⟨rfl,fun p hp=>.inl hp⟩
 | a :: r,V,V',next,nf,M,M',h=>by
  obtain ⟨t,k,l,V1,_,_,_,hV,h⟩:=N2b h;obtain ⟨h1,h2⟩:=P7a h;have h3:=HAt.T5a hV;refine ⟨h1.trans h3.1,fun p hp=>?_⟩
  rcases h2 p hp with h | ⟨h,h4,h5⟩
  . rcases Q9a h with rfl | h
    . exact .inr ⟨by simp,by simp,by simp only;omega⟩
    exact .inl h
  exact .inr ⟨by simp [h],h4,by rw [h3.1] at h5;exact h5⟩
open Go.RowKit
namespace Hp
def nameOf (L:List Int) (a:Int):Int:=if 0<=a then L.getD a.toNat 0 else 0
structure Act' where
 kind:Int
 a:Int
 list:List Int
 fault:Int
 n:Int
structure Sc where
 S:Hs
 res:List Int
 ats:List Int
def Sc.note (s:Sc) (r e:Int) (isA:Bool):Sc:={ s with res:=s.res ++ [if e ≠ 0 then -e else r],ats:=s.ats ++ [if e ≠ 0 then 0 else if isA then r else 0] }
def Sc.forget (s:Sc):Sc:={ s with ats:=s.ats.map fun a=>if s.S.has a then a else 0 }
def Sc.do' (s:Sc) (x:Act'):Option Sc:=
 if x.kind=1 then do
  let (r,e,S) <- s.S.end' x.fault x.n
  some ({ s with S:=S }.note r e true)
 else if x.kind=2 \/ x.kind=3 then
  let kids:=x.list.map (nameOf s.ats)
  if kids.contains 0 then some (s.note 0 7 false) else
  if x.kind=2 then do
   let (r,e,S) <- s.S.make x.a kids
   some ({ s with S:=S }.note r e true)
  else do
   let (r,e) <- s.S.find x.a kids
   some (s.note r e true)
 else if x.kind=4 \/ x.kind=5 then
  if nameOf s.ats x.a=0 then some (s.note 0 7 false) else
  if x.kind=4 then do
   let (e,S) <- s.S.hold (nameOf s.ats x.a)
   some ({ s with S:=S }.note 0 e false)
  else do
   let (e,S) <- s.S.drop (nameOf s.ats x.a)
   some ({ s with S:=S }.note 0 e false)
 else if x.kind=6 then do
  let (m,S) <- s.S.collect
  some (({ s with S:=S }.forget).note m 0 false)
 else if x.kind=7 then do
  let (_,S) <- s.S.collect
  let s:=({ s with S:=S }:Sc).forget
  let (M,S) <- s.S.moved
  some (({ s with S:=S,ats:=s.ats.map fun a=>if a < 0 then 0 else (getI a.toNat M).getD 0 }:Sc).note 0 0 false)
 else some (s.note 0 7 false)
def Sc.play (s:Sc):List Act'->Option Sc
 | []=>some s
 | x :: r=>do (<- s.do' x).play r
end Hp
theorem Row.but_ {base:Nat} (h:Row w base p c l) {bs:List Nat} (k:But bs w w') (hb:∀ b o,p=some ⟨b,o,none⟩->b ∉ bs):Row w' base p c l:=by
 refine ⟨⟨h.1.1, ?_⟩,h.2⟩
 rcases h.1.2 with e | ⟨g,cap,cur,e,h1,hg,r⟩
 . exact .inl e
 refine .inr ⟨g,cap,cur,e,h1, ?_,r⟩
 have hl:=(q4b.1 hg).1
 injection e with e1
 rw [k.block g hl (hb g 0 e1)]
 exact hg
open Go.RowKit
theorem h3a {L:List Int} (h:∀ x ∈ L,-9223372036854775808<=x/\x<=9223372036854775807) (a:Int) : -9223372036854775808<=Hp.nameOf L a/\Hp.nameOf L a<=9223372036854775807:=by
 unfold Hp.nameOf
 split
 . rw [q1b]
   cases e:L[a.toNat]? with
   | none=>simp
   | some x=>simpa using h x (u1b e)
 omega
theorem Ext.grown {row:Option Nat} (h:Ext w0 w) (k:w.grownBy w' row) (hr:∀ r,row=some r->w0.heap.size<=r):Ext w0 w':=
 ⟨k.os.trans h.os,k.tape.trans h.tape,k.output.trans h.output,G5c h.le k.size,fun i hi=>(k.block i (x4b hi h.le) (fun e=>by have:=hr i e.symm;omega)).trans (h.block i hi)⟩
open Go.RowKit Go.Maps
section
variable {P:Program} {ops:Array Oper} {Q:Exit->Act->World->Prop} {md:Region.Mode} {S:World->Prop} {n G:Nat}
theorem H6a {listed:Array Bool} {a:Act} (is:List Nat) (hr:Region.ready md ops listed=is) (h0:is ≠ []) (hn:∀ i ∈ is,i < n)
    (h:∀ i ∈ is,wpOp P ops Q i (fun a' w''=>S w''/\E0a P md ops Q S Eq n G f (listed.setIfInBounds i true) a' w'') a w):E0a P md ops Q S Eq n G (f+1) listed a w:=by
  intro w' e _;subst e;subst hr;exact ⟨h0,fun i hi=>⟨hn i hi,h i hi⟩⟩
theorem c4a {oi:Oper} {v:Value} {K:Act->World->Prop} {a:Act} {w'':World} (hi:ops[i]? = some oi) (hw:Region.wanted oi (yielded ops a.tmps)=true)
    (hrun:(execOp a.eval oi).run P w = .ok (.value v) w'') (hk:K (a.put oi.dst v) w''):wpOp P ops Q i K a w:=by
  unfold wpOp;simp only [hi];rw [H5c hw];refine .inl ?_;unfold Oper.wp;rw [hrun];exact hk
end
theorem D7b {base:Nat} (hrow:Row w base p c l):∀ r,(Value.slice p l.length c).ownBlock=some r->p=some ⟨r,0,none⟩:=fun r hr=>by
 cases p with
 | none=>simp [Value.ownBlock] at hr
 | some q=>
  have hr':q.block=r:=by simpa [Value.ownBlock] using hr
  subst hr'
  rcases hrow.1.2 with ⟨e,_⟩ | ⟨g',cap',cur,e,h1,_⟩
  . injection e with e1
    cases e1
  injection e with e1
  rw [D3c e1]
open Go.RowKit Go.Maps
end Go.Proofs.YtdokmmhjmclmnaaGreat
