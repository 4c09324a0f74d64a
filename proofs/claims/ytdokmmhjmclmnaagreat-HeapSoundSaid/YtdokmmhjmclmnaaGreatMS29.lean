/-
  Part 29 of a proof: HFn32 HFn33 PL31.
-/
import Derived.Test.YtdokmmhjmclmnaaGreatMS04
import Derived.Test.YtdokmmhjmclmnaaGreatMS06
import Derived.Test.YtdokmmhjmclmnaaGreatMS07
import Derived.Test.YtdokmmhjmclmnaaGreatMS14
import Derived.Test.YtdokmmhjmclmnaaGreatMS15
set_option linter.unusedSimpArgs false
set_option linter.unusedVariables false
set_option linter.unusedSectionVars false
set_option linter.unnecessarySimpa false
namespace Go.Proofs.YtdokmmhjmclmnaaGreat
variable {W' w w' w0:World} {B a b base c ca cap f g i j k k1 k2 lb n oc qc sb sc:Nat} {choice e t x:Int} {A V W fs l o z:List Int} {D T Y:List Nat} {op p p1 p2 pa q sp:Option Addr} {d:Hd} {S S':Hp.Hs} {L:List Hp.Tl} {M:List (Nat × Int)} {s s' s1:Hp.Sc} {acts:List Hp.Act'} {c0 c1:Value}
open Go.RowKit Go.Maps
theorem SliceAt.two (w:World) (x y:Int) (hx : -9223372036854775808<=x/\x<=9223372036854775807) (hy : -9223372036854775808<=y/\y<=9223372036854775807) (t:TypeId):SliceAt (w.alloc (.cells #[.int .i64 x,.int .i64 y] t)) (some ⟨w.heap.size,0,none⟩) 2 [x,y]:=by
 refine ⟨by simp,by omega,fun z hz=>?_,fun _=>⟨w.heap.size,0,rfl,by simp,fun j z hj=>?_⟩⟩
 . rcases List.mem_cons.1 hz with rfl | hz
   . exact hx
   have:z=y:=by simpa using hz
   subst this;exact hy
 match j,hj with
 | 0,hj=>simp [Hp.rd] at hj;subst hj;simp [go_sem]
 | 1,hj=>simp [Hp.rd] at hj;subst hj;simp [go_sem]
 | j+2,hj=>simp [Hp.rd] at hj
theorem SliceAt.two_ (w:World) (g:Nat) (hg:g=w.heap.size) (x y:Int) (hx : -9223372036854775808<=x/\x<=9223372036854775807) (hy : -9223372036854775808<=y/\y<=9223372036854775807) (t:TypeId):SliceAt (w.alloc (.cells #[.int .i64 x,.int .i64 y] t)) (some ⟨g,0,none⟩) 2 [x,y]:=by
 subst hg
 exact SliceAt.two w x y hx hy t
theorem new_two {W:World} {S0:Hp.Hs} {g1 g2:Nat} (hn:32<=n) (hn2:n<=40000) (he:Hp.newErr [2,2] [0,1] n=0) (h0:Hp.new [2,2] [0,1] n=some S0) (h1:SliceAt W (some ⟨g1,0,none⟩) 2 [2,2]) (h2:SliceAt W (some ⟨g2,0,none⟩) 2 [0,1]) :
    Calls Tryz.prog 36 #[.slice (some ⟨g1,0,none⟩) 2 2,.slice (some ⟨g2,0,none⟩) 2 2,.int .i64 n] W (NewPost W S0):=
  New_any (sizes:=[2,2]) (order:=[0,1]) h1 h2 (.inl (by simp)) (.inl (by simp)) (by simp) (by simp) hn hn2 he h0 (by simp)
def PairPost (w:World) (S:Hp.Hs) (e:Ending) (w':World):Prop:=∃ d:Hd,e = .returned (.tuple #[.pointer (some ⟨d.hb,0,none⟩),.agg #[.int .i64 17,.int .i64 22,.int .i64 27],.bool true])/\HAt w' d S/\(∀ b ∈ d.own,w.heap.size<=b)/\Ext w w'/\(∀ b o,d.sp=some ⟨b,o,none⟩->w.heap.size<=b) /\ ∀ b o,d.op=some ⟨b,o,none⟩->w.heap.size<=b
set_option maxRecDepth 100000 in
set_option maxHeartbeats 8000000 in
theorem pair_any {S0 S1 S2 S3:Hp.Hs} (hn:32<=n) (hn2:n<=40000) (he:Hp.newErr [2,2] [0,1] n=0) (h0:Hp.new [2,2] [0,1] n=some S0) (h1:S0.end' (0:Nat) 5=some (17,0,S1)) (h2:S1.end' (0:Nat) 7=some (22,0,S2)) (h3:S2.make 1 [17,22]=some (27,0,S3)) :
    Calls Tryz.prog 55 #[.int .i64 n] w (PairPost w S3):=by
  have HE:=hZ he;have H0:=hZ h0;have H1:=hZ h1;have H2:=hZ h2;have H3:=hZ h3;clear he h0 h1 h2 h3;go_enter Tryz.func55,Tryz.ntmps55;have q1:SliceAt (((w.alloc (.cells #[.int .i64 0,.int .i64 0,.int .i64 0] 97)).alloc (.cells #[.int .i64 2,.int .i64 2] 3)).alloc (.cells #[.int .i64 0,.int .i64 1] 3)) (some ⟨w.heap.size+1,0,none⟩) 2 [2,2]:=(SliceAt.two_ _ _ (by simp) 2 2 (by omega) (by omega) _).ext (Ext.alloc (Ext.refl _) _);have q2:SliceAt (((w.alloc (.cells #[.int .i64 0,.int .i64 0,.int .i64 0] 97)).alloc (.cells #[.int .i64 2,.int .i64 2] 3)).alloc (.cells #[.int .i64 0,.int .i64 1] 3)) (some ⟨w.heap.size+1+1,0,none⟩) 2 [0,1]:=SliceAt.two_ _ _ (by simp) 0 1 (by omega) (by omega) _;go_upto_region 2 with (go_at_call 36;refine (new_two hn hn2 HE.out H0.out q1 q2).mono ?_;rintro e w1 ⟨d,rfl,hA1,o1,E1,s1,s2⟩)
  have EW:Ext w w1:=exx;have N1:=hZ (Now.refl hA1);have O1:∀ b ∈ d.own,w.heap.size+3<=b:=fun b hb=>by have:=o1 b hb;simp at this;omega
  have OH:=hZ O1;have S1H:=hZ (fun b o (e:d.sp=some ⟨b,o,none⟩)=>(by have:=s1 b o e;simp at this;omega:w.heap.size+3<=b));have S2H:=hZ (fun b o (e:d.op=some ⟨b,o,none⟩)=>(by have:=s2 b o e;simp at this;omega:w.heap.size+3<=b));clear s1 s2;have z1:w.heap.size+3<=w1.heap.size:=by have:=E1.le;simp at this;omega
  have bx:∀ k,k < 3->w1.cell? ⟨w.heap.size,k,none⟩=some (.int .i64 0):=fun k hk=>by
   rw [E1.cell (by simp;omega) k];have:k=0 \/ k=1 \/ k=2:=by omega
   rcases this with rfl | rfl | rfl <;> simp [go_sem]
  have BX:=hZ bx;have fx:∀ k,w1.frozen? ⟨w.heap.size,k,none⟩=false:=fun k=>by
   rw [E1.frozen (by simp;omega) k];simp [go_sem]
  have FX:=hZ fx;clear hA1 o1 O1 E1 bx fx q1 q2;go_upto_region 3 with (go_at_call 43;refine (End_any N1.out.toHAt (f:=0) (by omega) (by omega) (by omega) H1.out).mono ?_;rintro e w2 ⟨rfl,A2⟩)
  have N2:=hZ (Now.mk A2.toHAt (N1.out.but.trans A2.but));clear A2 N1;go_upto_region 4 with (go_at_call 43;refine (End_any N2.out.toHAt (f:=0) (by omega) (by omega) (by omega) H2.out).mono ?_;rintro e w3 ⟨rfl,A3⟩)
  have N3:=hZ (Now.mk A3.toHAt (N2.out.but.trans A3.but));clear A3 N2;have q3:SliceAt (w3.alloc (.cells #[.int .i64 17,.int .i64 22] 3)) (some ⟨w3.heap.size,0,none⟩) 2 [17,22]:=SliceAt.two w3 17 22 (by omega) (by omega) _;have E3:Ext w3 (w3.alloc (.cells #[.int .i64 17,.int .i64 22] 3)):=Ext.alloc (Ext.refl _) _
  have M3:Calls Tryz.prog 44 #[.pointer (some ⟨d.hb,0,none⟩),.int .i64 1,.slice (some ⟨w3.heap.size,0,none⟩) 2 2] (w3.alloc (.cells #[.int .i64 17,.int .i64 22] 3)) (Added d (w3.alloc (.cells #[.int .i64 17,.int .i64 22] 3)) (27,0,S3)):=
   Make_any (l:=[17,22]) (N3.out.ext E3).toHAt q3 (fun b o e hm=>by
    cases e
    have:=N3.out.own_lt _ hm;omega) (by omega) (by omega) H3.out
  clear q3;go_upto_region 5 with (go_at_call 44;refine M3.mono ?_;rintro e w4 ⟨rfl,A4⟩)
  have N4:=hZ (Now.mk A4.toHAt ((N3.out.but.ext E3).trans A4.but));have hx:w.heap.size ∉ d.own:=fun hm=>by have:=OH.out _ hm;omega
  have c0:=(N4.out.but.cell (by omega) hx 0).trans (BX.out 0 (by omega));have c1:=(N4.out.but.cell (by omega) hx 1).trans (BX.out 1 (by omega));have c2:=(N4.out.but.cell (by omega) hx 2).trans (BX.out 2 (by omega));have f0:=(N4.out.but.frozen (by omega) hx 0).trans (FX.out 0);have f1:=(N4.out.but.frozen (by omega) hx 1).trans (FX.out 1);have f2:=(N4.out.but.frozen (by omega) hx 2).trans (FX.out 2);clear A4 M3 N3 E3
  go_wp2_with fail
  have kb:But [w.heap.size] w4 (((w4.setCell ⟨w.heap.size,0,none⟩ (.int .i64 17)).setCell ⟨w.heap.size,1,none⟩ (.int .i64 22)).setCell ⟨w.heap.size,2,none⟩ (.int .i64 27)):=
   (((But.refl _ _).setCell (.inl (by simp)) _).setCell (.inl (by simp)) _).setCell (.inl (by simp)) _
  have hx2:=OH.out _ d.hb_own;have hx3:=OH.out _ d.gw_own;have hx4:=OH.out _ d.gm_own
  have A5:HAt (((w4.setCell ⟨w.heap.size,0,none⟩ (.int .i64 17)).setCell ⟨w.heap.size,1,none⟩ (.int .i64 22)).setCell ⟨w.heap.size,2,none⟩ (.int .i64 27)) d S3:=
   N4.out.toHAt.but kb (by simp;omega) (by simp;omega) (by simp;omega) (fun b o e=>by have:=S1H.out b o e;simp;omega) (fun b o e=>by have:=S2H.out b o e;simp;omega)
  have X4:Ext w w4:=But.toExt EW N4.out.but (fun b hb=>by have:=OH.out b hb;omega);refine bodyPost_ret (v:=.tuple #[.pointer (some ⟨d.hb,0,none⟩),.agg #[.int .i64 17,.int .i64 22,.int .i64 27],.bool true]) (by simp [results,Tryz.results55,go_sem, *]) rfl ⟨d,rfl,A5,(fun b hb=>by have:=OH.out b hb;omega),exx,(fun b o e=>by have:=S1H.out b o e;omega),(fun b o e=>by have:=S2H.out b o e;omega)⟩
namespace Aw
def none':Hp.Hs:=⟨[],[],[],[]⟩
def S0:Hp.Hs:=(Hp.new [2,2] [0,1] 39).getD none'
def S1:Hp.Hs:=((S0.end' (0:Nat) 5).getD (0,0,none')).2.2
def S2:Hp.Hs:=((S1.end' (0:Nat) 7).getD (0,0,none')).2.2
def S3:Hp.Hs:=((S2.make 1 [17,22]).getD (0,0,none')).2.2
def S4:Hp.Hs:=((S3.make 0 [17,27]).getD (0,0,none')).2.2
def S5:Hp.Hs:=((S4.hold 27).getD (0,none')).2
def S6:Hp.Hs:=(S5.collect.getD (0,none')).2
def L6:List (Nat × Nat):=(S6.piecesFrom S6.fuel 17).getD []
theorem e0:Hp.new [2,2] [0,1] 39=some S0:=by kernel_rfl
theorem ee:Hp.newErr [2,2] [0,1] (39:Nat)=0:=by kernel_rfl
theorem e1:S0.end' (0:Nat) 5=some (17,0,S1):=by kernel_rfl
theorem e2:S1.end' (0:Nat) 7=some (22,0,S2):=by kernel_rfl
theorem e3:S2.make 1 [17,22]=some (27,0,S3):=by kernel_rfl
theorem e4:S3.make 0 [17,27]=some (33,0,S4):=by kernel_rfl
theorem e5:S4.hold 27=some (0,S5):=by kernel_rfl
theorem e6:S5.collect=some (1,S6):=by kernel_rfl
theorem el:S6.live=some [17,22,27]:=by kernel_rfl
theorem ep:S6.piecesFrom S6.fuel 17=some L6:=by kernel_rfl
theorem eg:S6.gapSums L6=(6,6):=by kernel_rfl
theorem et:S6.taken.length=3:=by kernel_rfl
theorem ew:S4.words.length=39:=by kernel_rfl
theorem es:decide (S4.words.drop 16=lastWords)=true:=by kernel_rfl
theorem r1:Hp.rd S4.words 1=some 17:=by kernel_rfl
theorem r3:Hp.rd S4.words 3=some 22:=by kernel_rfl
theorem r11:Hp.rd S4.words 11=some 27:=by kernel_rfl
theorem r14:Hp.rd S4.words 14=some 33:=by kernel_rfl
theorem h27:S6.has (27:Nat)=true:=by kernel_rfl
theorem t27:S6.tag 27=some 2:=by kernel_rfl
theorem k27:S6.kids 27=some [17,22]:=by kernel_rfl
theorem h22:S6.has (22:Nat)=true:=by kernel_rfl
theorem t22:S6.tag 22=some 20:=by kernel_rfl
theorem n22:Hp.rd S6.words (22+4)=some 7:=by kernel_rfl
end Aw
namespace Hp
def scanF:List Int->Int->Int
 | a :: b :: r,x=>if a=x then b else scanF r x
 | _,x=>x
theorem scanF_told:∀ {M:List (Nat × Int)},KeysUp M -> ∀ x:Int,scanF (told M) x=if x < 0 then x else (getI x.toNat M).getD x
 | [],_,x=>by
  show x=_;simp [getI]
 | (a,v) :: r,hu,x=>by
  obtain ⟨h1,h2⟩:=List.pairwise_cons.1 hu;have ih:=scanF_told h2 x;unfold told at ih ⊢;rw [List.flatMap_cons];unfold getI
  by_cases hx:x < 0
  . rw [if_pos hx] at ih ⊢
    split
    . show (if (a:Int)=x then v else scanF _ x)=x;rw [if_neg (by omega)];exact ih
    exact ih
  rw [if_neg hx] at ih ⊢
  by_cases ha:a=x.toNat
  . subst ha;rw [if_pos rfl]
    split
    . show (if ((x.toNat:Nat):Int)=x then v else scanF _ x)=v;rw [if_pos (by omega)]
    rename_i hv;have hv':v=((x.toNat:Nat):Int):=by simpa using hv
    have e:getI x.toNat r=none:=getI_none fun p hp=>h1 p hp
    rw [List.nil_append,ih,e];show x=v;omega
  rw [if_neg ha]
  split
  . show (if (a:Int)=x then v else scanF _ x)=_;rw [if_neg (by omega)];exact ih
  exact ih
theorem comp_after {S1 S2:Hs} {cm:Nat} {ch:Nat->List Nat} (hw:Wf S B L ch) (hco:S.collect=some (cm,S1)) (hmv:S1.moved=some (M,S2)):S1.compacted=some (told M,S2):=by
 obtain ⟨T,hT⟩:=live_total hw
 obtain ⟨S',L',e,hc,hw'⟩:=collect_wf hw hT
 rw [hco] at e
 simp only [Option.some.injEq,Prod.mk.injEq] at e
 obtain ⟨_,rfl⟩:=e
 have e:=collect_all hw' (coll_live hw hw' hT hc)
 unfold Hs.compacted
 rw [e]
 simp only [Option.bind_eq_bind,Option.bind_some]
 rw [hmv]
 rfl
theorem follow_told {S1 S2:Hs} {ch:Nat->List Nat} (hw:Wf S1 B L ch) (hmv:S1.moved=some (M,S2)) (A:List Int) :
    ((A.map fun a=>if S1.has a then a else 0).map fun a=>if a < 0 then 0 else (getI a.toNat M).getD 0)=(A.map fun a=>if S1.has a then a else 0).map (scanF (told M)):=by
  obtain ⟨M',m,S',L',ch',e,hm,_⟩:=moved_wf hw;rw [hmv] at e;simp only [Option.some.injEq,Prod.mk.injEq] at e;obtain ⟨rfl,_⟩:=e;rw [List.map_map,List.map_map];refine List.map_congr_left fun x _=>?_
  show (if (if S1.has x then x else 0) < 0 then 0 else (getI (if S1.has x then x else 0).toNat M).getD 0)=scanF (told M) (if S1.has x then x else 0);rw [scanF_told hm.up]
  cases hh:S1.has x with
  | false=>
   simp only [Bool.false_eq_true,if_false]
  | true=>
   obtain ⟨a,rfl,ha⟩:=has_yes hh;simp only [if_true];rw [if_neg (by omega),if_neg (by omega),Int.toNat_natCast,hm.get,if_pos ha];rfl
theorem scanF_step {a b:Int} (ha:rd l k=some a) (hb:rd l (k+1)=some b):scanF (l.drop k) x=if a=x then b else scanF (l.drop (k+2)) x:=by
 obtain ⟨h1,e1⟩:=List.getElem?_eq_some_iff.1 ha
 obtain ⟨h2,e2⟩:=List.getElem?_eq_some_iff.1 hb
 rw [List.drop_eq_getElem_cons h1,List.drop_eq_getElem_cons h2,e1,e2]
 rfl
theorem scanF_end (h:l.length<=k+1):scanF (l.drop k) x=x:=by
 have h1:(l.drop k).length<=1:=by rw [List.length_drop];omega
 match l.drop k,h1 with
 | [],_=>rfl
 | [_],_=>rfl
theorem told_even:∀ M:List (Nat × Int),(told M).length % 2=0
 | []=>by simp [told]
 | p :: r=>by
  have:=told_even r;unfold told at this ⊢;rw [List.flatMap_cons,List.length_append]
  split <;> simp only [List.length_cons,List.length_nil] <;> omega
end Hp
end Go.Proofs.YtdokmmhjmclmnaaGreat
