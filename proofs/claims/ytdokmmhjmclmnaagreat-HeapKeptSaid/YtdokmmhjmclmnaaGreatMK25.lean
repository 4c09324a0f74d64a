/-
  Part 25 of a proof: HFn32 HFn33 PL20 PL35.
-/
import Derived.Test.YtdokmmhjmclmnaaGreatMK04
import Derived.Test.YtdokmmhjmclmnaaGreatMK06
import Derived.Test.YtdokmmhjmclmnaaGreatMK07
import Derived.Test.YtdokmmhjmclmnaaGreatMK11
import Derived.Test.YtdokmmhjmclmnaaGreatMK16
import Derived.Test.YtdokmmhjmclmnaaGreatMK19
set_option linter.unusedSimpArgs false
set_option linter.unusedVariables false
set_option linter.unusedSectionVars false
set_option linter.unnecessarySimpa false
namespace Go.Proofs.YtdokmmhjmclmnaaGreat
variable {W' w w' w0:World} {B a b base c ca cap f g i j k k1 k2 m n oc sb sc:Nat} {choice e t x:Int} {W fs l o z:List Int} {A T:List Nat} {op p p1 p2 pa pe pn q sp:Option Addr} {d:Hd} {S S':Hp.Hs} {L:List Hp.Tl} {M:List (Nat × Int)} {s s':Hp.Sc} {acts:List Hp.Act'}
open Go.RowKit Go.Maps
theorem SliceAt.two (w:World) (x y:Int) (hx : -9223372036854775808<=x/\x<=9223372036854775807) (hy : -9223372036854775808<=y/\y<=9223372036854775807) (t:TypeId):SliceAt (w.alloc (.cells #[.int .i64 x,.int .i64 y] t)) (some ⟨w.heap.size,0,none⟩) 2 [x,y]:=by
 refine ⟨by simp,by omega,fun z hz=>?_,fun _=>⟨w.heap.size,0,rfl,by simp,fun j z hj=>?_⟩⟩
 . rcases List.mem_cons.1 hz with rfl | hz
   . exact hx
   have:z=y:=by simpa using hz
   subst this;exact hy
 match j,hj with
 | 0,hj=>simp [Hp.rd] at hj;subst hj;simp [go_sem]
 | 1,hj=>simp [Hp.rd] at hj;subst hj;simp [go_sem]
 | j+2,hj=>simp [Hp.rd] at hj
theorem SliceAt.two_ (w:World) (g:Nat) (hg:g=w.heap.size) (x y:Int) (hx : -9223372036854775808<=x/\x<=9223372036854775807) (hy : -9223372036854775808<=y/\y<=9223372036854775807) (t:TypeId):SliceAt (w.alloc (.cells #[.int .i64 x,.int .i64 y] t)) (some ⟨g,0,none⟩) 2 [x,y]:=by
 subst hg
 exact SliceAt.two w x y hx hy t
theorem new_two {W:World} {S0:Hp.Hs} {g1 g2:Nat} (hn:32<=n) (hn2:n<=40000) (he:Hp.newErr [2,2] [0,1] n=0) (h0:Hp.new [2,2] [0,1] n=some S0) (h1:SliceAt W (some ⟨g1,0,none⟩) 2 [2,2]) (h2:SliceAt W (some ⟨g2,0,none⟩) 2 [0,1]) :
    Calls Tryz.prog 36 #[.slice (some ⟨g1,0,none⟩) 2 2,.slice (some ⟨g2,0,none⟩) 2 2,.int .i64 n] W (NewPost W S0):=
  New_any (sizes:=[2,2]) (order:=[0,1]) h1 h2 (.inl (by simp)) (.inl (by simp)) (by simp) (by simp) hn hn2 he h0 (by simp)
def PairPost (w:World) (S:Hp.Hs) (e:Ending) (w':World):Prop:=∃ d:Hd,e = .returned (.tuple #[.pointer (some ⟨d.hb,0,none⟩),.agg #[.int .i64 17,.int .i64 22,.int .i64 27],.bool true])/\HAt w' d S/\(∀ b ∈ d.own,w.heap.size<=b)/\Ext w w'/\(∀ b o,d.sp=some ⟨b,o,none⟩->w.heap.size<=b) /\ ∀ b o,d.op=some ⟨b,o,none⟩->w.heap.size<=b
set_option maxRecDepth 100000 in
set_option maxHeartbeats 8000000 in
theorem pair_any {S0 S1 S2 S3:Hp.Hs} (hn:32<=n) (hn2:n<=40000) (he:Hp.newErr [2,2] [0,1] n=0) (h0:Hp.new [2,2] [0,1] n=some S0) (h1:S0.end' (0:Nat) 5=some (17,0,S1)) (h2:S1.end' (0:Nat) 7=some (22,0,S2)) (h3:S2.make 1 [17,22]=some (27,0,S3)) :
    Calls Tryz.prog 55 #[.int .i64 n] w (PairPost w S3):=by
  have HE:=hZ he;have H0:=hZ h0;have H1:=hZ h1;have H2:=hZ h2;have H3:=hZ h3;clear he h0 h1 h2 h3;go_enter Tryz.func55,Tryz.ntmps55;have q1:SliceAt (((w.alloc (.cells #[.int .i64 0,.int .i64 0,.int .i64 0] 97)).alloc (.cells #[.int .i64 2,.int .i64 2] 3)).alloc (.cells #[.int .i64 0,.int .i64 1] 3)) (some ⟨w.heap.size+1,0,none⟩) 2 [2,2]:=(SliceAt.two_ _ _ (by simp) 2 2 (by omega) (by omega) _).ext (Ext.alloc (Ext.refl _) _);have q2:SliceAt (((w.alloc (.cells #[.int .i64 0,.int .i64 0,.int .i64 0] 97)).alloc (.cells #[.int .i64 2,.int .i64 2] 3)).alloc (.cells #[.int .i64 0,.int .i64 1] 3)) (some ⟨w.heap.size+1+1,0,none⟩) 2 [0,1]:=SliceAt.two_ _ _ (by simp) 0 1 (by omega) (by omega) _;go_upto_region 2 with (go_at_call 36;refine (new_two hn hn2 HE.out H0.out q1 q2).mono ?_;rintro e w1 ⟨d,rfl,hA1,o1,E1,s1,s2⟩)
  have EW:Ext w w1:=exx;have N1:=hZ (Now.refl hA1);have O1:∀ b ∈ d.own,w.heap.size+3<=b:=fun b hb=>by have:=o1 b hb;simp at this;omega
  have OH:=hZ O1;have S1H:=hZ (fun b o (e:d.sp=some ⟨b,o,none⟩)=>(by have:=s1 b o e;simp at this;omega:w.heap.size+3<=b));have S2H:=hZ (fun b o (e:d.op=some ⟨b,o,none⟩)=>(by have:=s2 b o e;simp at this;omega:w.heap.size+3<=b));clear s1 s2;have z1:w.heap.size+3<=w1.heap.size:=by have:=E1.le;simp at this;omega
  have bx:∀ k,k < 3->w1.cell? ⟨w.heap.size,k,none⟩=some (.int .i64 0):=fun k hk=>by
   rw [E1.cell (by simp;omega) k];have:k=0 \/ k=1 \/ k=2:=by omega
   rcases this with rfl | rfl | rfl <;> simp [go_sem]
  have BX:=hZ bx;have fx:∀ k,w1.frozen? ⟨w.heap.size,k,none⟩=false:=fun k=>by
   rw [E1.frozen (by simp;omega) k];simp [go_sem]
  have FX:=hZ fx;clear hA1 o1 O1 E1 bx fx q1 q2;go_upto_region 3 with (go_at_call 43;refine (End_any N1.out.toHAt (f:=0) (by omega) (by omega) (by omega) H1.out).mono ?_;rintro e w2 ⟨rfl,A2⟩)
  have N2:=hZ (Now.mk A2.toHAt (N1.out.but.trans A2.but));clear A2 N1;go_upto_region 4 with (go_at_call 43;refine (End_any N2.out.toHAt (f:=0) (by omega) (by omega) (by omega) H2.out).mono ?_;rintro e w3 ⟨rfl,A3⟩)
  have N3:=hZ (Now.mk A3.toHAt (N2.out.but.trans A3.but));clear A3 N2;have q3:SliceAt (w3.alloc (.cells #[.int .i64 17,.int .i64 22] 3)) (some ⟨w3.heap.size,0,none⟩) 2 [17,22]:=SliceAt.two w3 17 22 (by omega) (by omega) _;have E3:Ext w3 (w3.alloc (.cells #[.int .i64 17,.int .i64 22] 3)):=Ext.alloc (Ext.refl _) _
  have M3:Calls Tryz.prog 44 #[.pointer (some ⟨d.hb,0,none⟩),.int .i64 1,.slice (some ⟨w3.heap.size,0,none⟩) 2 2] (w3.alloc (.cells #[.int .i64 17,.int .i64 22] 3)) (Added d (w3.alloc (.cells #[.int .i64 17,.int .i64 22] 3)) (27,0,S3)):=
   Make_any (l:=[17,22]) (N3.out.ext E3).toHAt q3 (fun b o e hm=>by
    cases e
    have:=N3.out.own_lt _ hm;omega) (by omega) (by omega) H3.out
  clear q3;go_upto_region 5 with (go_at_call 44;refine M3.mono ?_;rintro e w4 ⟨rfl,A4⟩)
  have N4:=hZ (Now.mk A4.toHAt ((N3.out.but.ext E3).trans A4.but));have hx:w.heap.size ∉ d.own:=fun hm=>by have:=OH.out _ hm;omega
  have c0:=(N4.out.but.cell (by omega) hx 0).trans (BX.out 0 (by omega));have c1:=(N4.out.but.cell (by omega) hx 1).trans (BX.out 1 (by omega));have c2:=(N4.out.but.cell (by omega) hx 2).trans (BX.out 2 (by omega));have f0:=(N4.out.but.frozen (by omega) hx 0).trans (FX.out 0);have f1:=(N4.out.but.frozen (by omega) hx 1).trans (FX.out 1);have f2:=(N4.out.but.frozen (by omega) hx 2).trans (FX.out 2);clear A4 M3 N3 E3
  go_wp2_with fail
  have kb:But [w.heap.size] w4 (((w4.setCell ⟨w.heap.size,0,none⟩ (.int .i64 17)).setCell ⟨w.heap.size,1,none⟩ (.int .i64 22)).setCell ⟨w.heap.size,2,none⟩ (.int .i64 27)):=
   (((But.refl _ _).setCell (.inl (by simp)) _).setCell (.inl (by simp)) _).setCell (.inl (by simp)) _
  have hx2:=OH.out _ d.hb_own;have hx3:=OH.out _ d.gw_own;have hx4:=OH.out _ d.gm_own
  have A5:HAt (((w4.setCell ⟨w.heap.size,0,none⟩ (.int .i64 17)).setCell ⟨w.heap.size,1,none⟩ (.int .i64 22)).setCell ⟨w.heap.size,2,none⟩ (.int .i64 27)) d S3:=
   N4.out.toHAt.but kb (by simp;omega) (by simp;omega) (by simp;omega) (fun b o e=>by have:=S1H.out b o e;simp;omega) (fun b o e=>by have:=S2H.out b o e;simp;omega)
  have X4:Ext w w4:=But.toExt EW N4.out.but (fun b hb=>by have:=OH.out b hb;omega);refine bodyPost_ret (v:=.tuple #[.pointer (some ⟨d.hb,0,none⟩),.agg #[.int .i64 17,.int .i64 22,.int .i64 27],.bool true]) (by simp [results,Tryz.results55,go_sem, *]) rfl ⟨d,rfl,A5,(fun b hb=>by have:=OH.out b hb;omega),exx,(fun b o e=>by have:=S1H.out b o e;omega),(fun b o e=>by have:=S2H.out b o e;omega)⟩
namespace Aw
def none':Hp.Hs:=⟨[],[],[],[]⟩
def S0:Hp.Hs:=(Hp.new [2,2] [0,1] 39).getD none'
def S1:Hp.Hs:=((S0.end' (0:Nat) 5).getD (0,0,none')).2.2
def S2:Hp.Hs:=((S1.end' (0:Nat) 7).getD (0,0,none')).2.2
def S3:Hp.Hs:=((S2.make 1 [17,22]).getD (0,0,none')).2.2
def S4:Hp.Hs:=((S3.make 0 [17,27]).getD (0,0,none')).2.2
def S5:Hp.Hs:=((S4.hold 27).getD (0,none')).2
def S6:Hp.Hs:=(S5.collect.getD (0,none')).2
def L6:List (Nat × Nat):=(S6.piecesFrom S6.fuel 17).getD []
theorem e0:Hp.new [2,2] [0,1] 39=some S0:=by kernel_rfl
theorem ee:Hp.newErr [2,2] [0,1] (39:Nat)=0:=by kernel_rfl
theorem e1:S0.end' (0:Nat) 5=some (17,0,S1):=by kernel_rfl
theorem e2:S1.end' (0:Nat) 7=some (22,0,S2):=by kernel_rfl
theorem e3:S2.make 1 [17,22]=some (27,0,S3):=by kernel_rfl
theorem e4:S3.make 0 [17,27]=some (33,0,S4):=by kernel_rfl
theorem e5:S4.hold 27=some (0,S5):=by kernel_rfl
theorem e6:S5.collect=some (1,S6):=by kernel_rfl
theorem el:S6.live=some [17,22,27]:=by kernel_rfl
theorem ep:S6.piecesFrom S6.fuel 17=some L6:=by kernel_rfl
theorem eg:S6.gapSums L6=(6,6):=by kernel_rfl
theorem et:S6.taken.length=3:=by kernel_rfl
theorem ew:S4.words.length=39:=by kernel_rfl
theorem es:decide (S4.words.drop 16=lastWords)=true:=by kernel_rfl
theorem r1:Hp.rd S4.words 1=some 17:=by kernel_rfl
theorem r3:Hp.rd S4.words 3=some 22:=by kernel_rfl
theorem r11:Hp.rd S4.words 11=some 27:=by kernel_rfl
theorem r14:Hp.rd S4.words 14=some 33:=by kernel_rfl
theorem h27:S6.has (27:Nat)=true:=by kernel_rfl
theorem t27:S6.tag 27=some 2:=by kernel_rfl
theorem k27:S6.kids 27=some [17,22]:=by kernel_rfl
theorem h22:S6.has (22:Nat)=true:=by kernel_rfl
theorem t22:S6.tag 22=some 20:=by kernel_rfl
theorem n22:Hp.rd S6.words (22+4)=some 7:=by kernel_rfl
end Aw
namespace Hp
structure DropOk (S S':Hs) (L:List Tl) (ch:Nat->List Nat) (j:Nat):Prop where
 wf:Wf S' 60 L ch
 sizes:S'.sizes=S.sizes
 order:S'.order=S.order
 taken:S'.taken=S.taken
 len:S'.words.length=S.words.length
 zero:∀ i a,i < j->S.taken[i]? = some a->ow S'.words (a+2)=0
 rest:∀ i a,j<=i->S.taken[i]? = some a->ow S'.words (a+2)=ow S.words (a+2)
structure DropIn (S S':Hs) (L:List Tl) (ch:Nat->List Nat) (j:Nat) (a:Nat) (v:Int):Prop where
 wf:Wf S' 60 L ch
 sizes:S'.sizes=S.sizes
 order:S'.order=S.order
 taken:S'.taken=S.taken
 len:S'.words.length=S.words.length
 at_:S.taken[j]? = some a
 zero:∀ i b,i < j->S.taken[i]? = some b->ow S'.words (b+2)=0
 rest:∀ i b,j < i->S.taken[i]? = some b->ow S'.words (b+2)=ow S.words (b+2)
 cur:ow S'.words (a+2)=v
theorem DropOk.start {ch:Nat->List Nat} (h:Wf S 60 L ch):DropOk S S L ch 0:=
 ⟨h,rfl,rfl,rfl,rfl,fun _ _ hi=>by omega,fun _ _ _ _=>rfl⟩
theorem up_ne (h:T.Pairwise (· < ·)) (hi:T[i]? = some a) (hj:T[j]? = some b) (hne:i ≠ j):a ≠ b:=by
 obtain ⟨l1,rfl⟩:=List.getElem?_eq_some_iff.1 hi
 obtain ⟨l2,rfl⟩:=List.getElem?_eq_some_iff.1 hj
 rw [List.pairwise_iff_getElem] at h
 rcases Nat.lt_or_gt_of_ne hne with hlt | hlt
 . have:=h i j l1 l2 hlt;omega
 have:=h j i l2 l1 hlt
 omega
theorem DropIn.mem {ch:Nat->List Nat} {v:Int} (h:DropIn S S' L ch j a v):a ∈ S'.taken:=by
 rw [h.taken]
 exact List.mem_of_getElem? h.at_
theorem DropIn.range {ch:Nat->List Nat} {v:Int} (h:DropIn S S' L ch j a v):0<=v/\v<=60:=by
 have:=h.wf.holds a h.mem
 rw [h.cur] at this
 omega
theorem DropIn.step {ch:Nat->List Nat} {v:Int} (h:DropIn S S' L ch j a v) (hv:v ≠ 0):∃ S'',S'.drop a=some (0,S'')/\DropIn S S'' L ch j a (v-1):=by
 have hup:S.taken.Pairwise (· < ·):=by rw [<- h.taken];exact h.wf.up
 obtain ⟨W,e,hw,hl,hg⟩:=drop_wf h.wf h.mem (by rw [h.cur];exact hv)
 have far:∀ i b,i ≠ j->S.taken[i]? = some b->ow W (b+2)=ow S'.words (b+2):=fun i b hi hb=>by
  rw [hg,if_neg];have:=up_ne hup hb h.at_ hi;omega
 refine ⟨_,e,hw,h.sizes,h.order,h.taken,hl.trans h.len,h.at_,fun i b hi hb=>?_,fun i b hi hb=>?_, ?_⟩
 . exact (far i b (by omega) hb).trans (h.zero i b hi hb)
 . exact (far i b (by omega) hb).trans (h.rest i b hi hb)
 show ow W (a+2)=v-1
 rw [hg,if_pos rfl,h.cur]
theorem DropIn.done {ch:Nat->List Nat} {v:Int} (h:DropIn S S' L ch j a v) (hv:v=0):S'.drop a=some (9,S')/\DropOk S S' L ch (j+1):=by
 refine ⟨drop_no h.wf h.mem (h.cur.trans hv),h.wf,h.sizes,h.order,h.taken,h.len,fun i b hi hb=>?_,fun i b hi hb=>h.rest i b (by omega) hb⟩
 by_cases e:i=j
 . subst e;have:=h.at_;rw [hb] at this
   cases this
   exact h.cur.trans hv
 exact h.zero i b (by omega) hb
theorem DropOk.all {ch:Nat->List Nat} (h:DropOk S S' L ch S.taken.length):∀ a ∈ S'.taken,ow S'.words (a+2)=0:=fun a ha=>by
 rw [h.taken] at ha
 obtain ⟨i,hi,rfl⟩:=List.getElem_of_mem ha
 exact h.zero i _ hi (List.getElem?_eq_getElem hi)
structure HoldOk (S S':Hs) (L:List Tl) (ch:Nat->List Nat) (j:Nat):Prop where
 wf:Wf S' (60+j) L ch
 sizes:S'.sizes=S.sizes
 order:S'.order=S.order
 taken:S'.taken=S.taken
 len:S'.words.length=S.words.length
theorem HoldOk.skip {ch:Nat->List Nat} (h:HoldOk S S' L ch j) (hj:60+(j+1)<=100000):HoldOk S S' L ch (j+1):=
 ⟨h.wf.more (by omega) hj,h.sizes,h.order,h.taken,h.len⟩
theorem HoldOk.step {ch:Nat->List Nat} (h:HoldOk S S' L ch j) (hj:60+(j+1)<=100000) (ha:S.taken[j]? = some a):∃ S'',S'.hold a=some (0,S'')/\HoldOk S S'' L ch (j+1):=by
 have hm:a ∈ S'.taken:=by rw [h.taken];exact List.mem_of_getElem? ha
 obtain ⟨W,e,hw,hl,_⟩:=hold_wf h.wf (by omega) hm
 exact ⟨_,e,hw,h.sizes,h.order,h.taken,hl.trans h.len⟩
end Hp
namespace Hp
def natsI (A:List Nat):List Int:=A.map fun a:Nat=>(a:Int)
abbrev Dgm:=Int × List (Int × Int) × List (Int × List Int)
structure Kept (S:Hs) (A:List Nat) (G:List Dgm):Prop where
 len:A.length=G.length
 at_:∀ (i a:Nat),A[i]? = some a->a ∈ S.taken /\ ∃ x D,S.diagram a=some (x,D)/\G[i]? = some (x,D.ends,D.nodes)
def HeldAll (S:Hs) (A:List Nat):Prop:=∀ a ∈ A,0 < ow S.words (a+2)
theorem Kept.mem {G:List Dgm} (h:Kept S A G) (ha:a ∈ A):a ∈ S.taken:=by
 obtain ⟨i,hi⟩:=List.mem_iff_getElem?.1 ha
 exact (h.at_ i a hi).1
theorem Kept.like {m:Nat->Nat} {G:List Dgm} (h:Kept S A G) (L:Like S S' T m) (ho:S'.order.length=S.order.length) (hT:∀ a ∈ A,a ∈ T) (hm:∀ a ∈ A,m a ∈ S'.taken):Kept S' (A.map m) G:=by
 refine ⟨by rw [List.length_map,h.len],fun i b hb=>?_⟩
 rw [List.getElem?_map,Option.map_eq_some_iff] at hb
 obtain ⟨a,ha,rfl⟩:=hb
 have hmem:=List.mem_of_getElem? ha
 obtain ⟨_,x,D,e,hg⟩:=h.at_ i a ha
 obtain ⟨D',e',h1,h2⟩:=diagram_like L ho (hT a hmem) e
 exact ⟨hm a hmem,x,D',e',by rw [h1,h2];exact hg⟩
theorem Kept.nil (S:Hs):Kept S [] []:=⟨rfl,fun i a h=>by simp at h⟩
theorem kept_hold {ch:Nat->List Nat} {G:List Dgm} (h:HoldOk S S' L ch j) (hj:60+(j+1)<=100000) (ha:S.taken[j]? = some a) (hk:Kept S' A G) (hh:HeldAll S' A) :
    ∃ x D S'',S'.diagram a=some (x,D)/\FromTo S' a ⟨[],[],[]⟩ x D/\S'.hold a=some (0,S'')/\HoldOk S S'' L ch (j+1)/\Kept S'' (A ++ [a]) (G ++ [(x,D.ends,D.nodes)])/\HeldAll S'' (A ++ [a]):=by
  have hm:a ∈ S'.taken:=by rw [h.taken];exact List.mem_of_getElem? ha
  obtain ⟨x,D,ed,hd⟩:=diagram_total h.wf hm;obtain ⟨W,e,hw,hl,hg⟩:=hold_wf h.wf (by omega) hm;have pa:=h.wf.part hm;have hs:Same (ow S'.words) (ow W) S'.sizes S'.taken:=fun b hb=>by
   have pb:=h.wf.part hb;refine ⟨?_,fun i hi=>?_⟩
   . rw [hg,if_neg];have:=h.wf.ne hb hm (i:=0) (j:=2) (by omega) (by omega) (.inr (by omega))
     simpa using this
   rw [hg,if_neg];have:=h.wf.ne hb hm (i:=4+i) (j:=2) (by omega) (by omega) (.inr (by omega));omega
  have K1:=hk.like (like_hold (S':={ S' with words:=W }) h.wf rfl hs) rfl (fun b hb=>hk.mem hb) (fun b hb=>hk.mem hb);rw [List.map_id] at K1;obtain ⟨D',e',d1,d2⟩:=diagram_like (like_hold (S':={ S' with words:=W }) h.wf rfl hs) rfl hm ed;refine ⟨x,D,_,ed,hd,e,⟨hw,h.sizes,h.order,h.taken,hl.trans h.len⟩,⟨by simp [K1.len],fun i b hb=>?_⟩,fun b hb=>?_⟩
  . by_cases hi:i < A.length
    . rw [List.getElem?_append_left hi] at hb;obtain ⟨h1,x2,D2,h2,h3⟩:=K1.at_ i b hb;exact ⟨h1,x2,D2,h2,by rw [List.getElem?_append_left (by rw [<- K1.len];exact hi)];exact h3⟩
    have hi2:i=A.length:=by
     have:=(List.getElem?_eq_some_iff.1 hb).1;simp at this;omega
    subst hi2;rw [List.getElem?_append_right (Nat.le_refl _),Nat.sub_self] at hb
    cases hb
    refine ⟨hm,x,D',e', ?_⟩;rw [K1.len,List.getElem?_append_right (Nat.le_refl _),Nat.sub_self,d1,d2];rfl
  show 0 < ow W (b+2);rw [hg];have hx:=h.wf.holds a hm
  split
  . omega
  rcases List.mem_append.1 hb with hb | hb
  . exact hh b hb
  rename_i hne;exact absurd (by rw [List.mem_singleton.1 hb]) hne
theorem collect_some {ch:Nat->List Nat} (h:Wf S B L ch):∃ cm S1,S.collect=some (cm,S1):=by
 obtain ⟨T,hT⟩:=live_total h
 obtain ⟨S',L',e,_⟩:=collect_wf h hT
 exact ⟨_,_,e⟩
theorem moved_some {ch:Nat->List Nat} (h:Wf S B L ch):∃ M S1,S.moved=some (M,S1):=by
 obtain ⟨M,m,S',L',ch',e,_⟩:=moved_wf h
 exact ⟨_,_,e⟩
theorem kept_collect {S1:Hs} {cm:Nat} {ch:Nat->List Nat} {G:List Dgm} (hw:Wf S B L ch) (hco:S.collect=some (cm,S1)) (hk:Kept S A G) (hh:HeldAll S A) :
    (∃ L1 ch1,Wf S1 B L1 ch1)/\Kept S1 A G/\HeldAll S1 A/\S1.sizes=S.sizes/\S1.order=S.order/\S1.words.length=S.words.length:=by
  obtain ⟨T,hT,t1,t2,t3,t4,t5⟩:=hw.live_;obtain ⟨S',L',e,hc,hw'⟩:=collect_wf hw hT;rw [hco] at e;simp only [Option.some.injEq,Prod.mk.injEq] at e;obtain ⟨_,rfl⟩:=e;have hm:∀ a ∈ A,a ∈ S1.taken:=fun a ha=>by
   rw [hc.taken,List.mem_filter];exact ⟨hk.mem ha,by simpa using t3 a (hk.mem ha) (hh a ha)⟩
  have K1:=hk.like (like_coll hw hw' hc) (by rw [hc.order]) hm hm;rw [List.map_id] at K1;exact ⟨⟨_,_,hw'⟩,K1,fun a ha=>by rw [hc.hold a (hm a ha)];exact hh a ha,hc.sizes,hc.order,hc.len⟩
theorem kept_moved {S2:Hs} {ch:Nat->List Nat} {G:List Dgm} (hw:Wf S B L ch) (hmv:S.moved=some (M,S2)) (hk:Kept S A G) (hh:HeldAll S A) :
    ∃ A2:List Nat,(∃ L2 ch2,Wf S2 B L2 ch2)/\Kept S2 A2 G/\S2.sizes=S.sizes/\S2.order=S.order/\S2.words.length=S.words.length/\(natsI A).map (scanF (told M))=natsI A2:=by
  obtain ⟨M',m,S',L',ch',e,hm,hw',_⟩:=moved_wf hw;rw [hmv] at e;simp only [Option.some.injEq,Prod.mk.injEq] at e;obtain ⟨rfl,rfl⟩:=e;refine ⟨A.map m,⟨_,_,hw'⟩,hk.like (like_moved hw hm) (by rw [hm.order]) (fun a ha=>hk.mem ha) (fun a ha=>by rw [hm.taken];exact List.mem_map.2 ⟨a,hk.mem ha,rfl⟩),hm.sizes,hm.order,hm.len, ?_⟩;unfold natsI;rw [List.map_map,List.map_map];refine List.map_congr_left fun a ha=>?_
  show scanF (told M) (a:Int)=((m a:Nat):Int);rw [scanF_told hm.up,if_neg (by omega),Int.toNat_natCast,hm.get,if_pos (hk.mem ha)];rfl
theorem kept_has {G:List Dgm} (hk:Kept S A G):((natsI A).map fun a=>if S.has a then a else 0)=natsI A:=by
 unfold natsI
 rw [List.map_map]
 refine List.map_congr_left fun a ha=>?_
 show (if S.has (a:Int) then (a:Int) else 0)=(a:Int)
 rw [has_of (hk.mem ha)]
 rfl
theorem full_is (a:Nat) (S:Hs):∃ r e,Hs.full (a,S)=(r,e,S):=by
 unfold Hs.full
 split
 . exact ⟨_,_,rfl⟩
 exact ⟨_,_,rfl⟩
theorem kept_end {ch:Nat->List Nat} {G:List Dgm} (hw:Wf S B L ch) (hk:Kept S A G) {f n:Int} (hf:0<=f) :
    ∃ r e S',S.end' f n=some (r,e,S')/\(∃ L' ch',Wf S' B L' ch')/\Kept S' A G/\S'.sizes=S.sizes/\S'.order=S.order/\S'.words.length=S.words.length:=by
  unfold Hs.end'
  by_cases hbad:f > 4 \/ (f > 0/\n ≠ 0) \/ within (-9999) 9999 n=false
  . rw [if_pos hbad];exact ⟨0,4,S,rfl,⟨_,_,hw⟩,hk,rfl,rfl,rfl⟩
  rw [if_neg hbad];simp only [not_or,not_and,Classical.not_not,Bool.not_eq_false] at hbad;obtain ⟨h1,h2,h3⟩:=hbad;simp only [within,Bool.and_eq_true,decide_eq_true_eq] at h3;have hn:New S (20+f) [n]:=new_end hf (by omega) (fun h=>h2 h) h3.1 h3.2
  rcases add_wf hw hn with ⟨a,_,_,_,e⟩ | ⟨_,⟨_,e⟩ | ⟨P,u,Q,S',_,_,_,_,e,hp,hw'⟩⟩
  . obtain ⟨r,c,hr⟩:=full_is a S;rw [e];exact ⟨r,c,S,congrArg some hr,⟨_,_,hw⟩,hk,rfl,rfl,rfl⟩
  . obtain ⟨r,c,hr⟩:=full_is 0 S;rw [e];exact ⟨r,c,S,congrArg some hr,⟨_,_,hw⟩,hk,rfl,rfl,rfl⟩
  rw [e];have K1:=hk.like (like_hold hw hp.sizes hp.old) (by rw [hp.order]) (fun b hb=>hk.mem hb) (fun b hb=>by
   show b ∈ S'.taken;rw [hp.taken];exact (mem_ins _ _ _).2 (.inr (hk.mem hb)))
  rw [List.map_id] at K1;obtain ⟨r,c,hr⟩:=full_is u.a S';exact ⟨r,c,S',congrArg some hr,⟨_,_,hw'⟩,K1,hp.sizes,hp.order,hp.len⟩
end Hp
end Go.Proofs.YtdokmmhjmclmnaaGreat
