/-
  Part 11 of a proof: HLoadM HFn46 HFn26 HFn47 HFn48 HFn32 HFn33.
-/
import Derived.BigQuiet
import Derived.Test.YtdokmmhjmclmnaaGreatMB02
import Derived.Test.YtdokmmhjmclmnaaGreatMB03
import Derived.Test.YtdokmmhjmclmnaaGreatMB06
import Derived.Test.YtdokmmhjmclmnaaGreatMB08
import Derived.Test.YtdokmmhjmclmnaaGreatMB09
import Derived.Test.YtdokmmhjmclmnaaGreatMB10
set_option linter.unusedSimpArgs false
set_option linter.unusedVariables false
set_option linter.unusedSectionVars false
set_option linter.unnecessarySimpa false
namespace Go.Proofs.YtdokmmhjmclmnaaGreat
open Go.RowKit
structure LdAt (w0 w:World) (lb:Nat) (d:Hd) (S:Hp.Hs) (v:Value) (p:Option Addr) (k:Nat) (G:List Int):Prop extends HAt w d S where
 ext0:Ext w0 w
 h0:w.cell? ⟨lb,0,none⟩=some (.pointer (some ⟨d.hb,0,none⟩))
 h1:w.cell? ⟨lb,1,none⟩=some v
 fz:∀ k,w.frozen? ⟨lb,k,none⟩=false
 r:Row w 0 p k G
 lb0:w0.heap.size ≤ lb
 own0:∀ b ∈ d.own,w0.heap.size ≤ b
 lbn:lb ∉ d.own
 n:∀ b o,p=some ⟨b,o,none⟩ → w0.heap.size ≤ b ∧ b ∉ d.own ∧ b ≠ lb
 spn:∀ b o,d.sp=some ⟨b,o,none⟩ → b ≠ lb ∧ ∀ o',p ≠ some ⟨b,o',none⟩
 opn:∀ b o,d.op=some ⟨b,o,none⟩ → b ≠ lb ∧ ∀ o',p ≠ some ⟨b,o',none⟩
namespace LdAt
variable {w0 w w':World} {lb:Nat} {d:Hd} {S:Hp.Hs} {v:Value} {p:Option Addr} {k:Nat} {G:List Int}
theorem lt1 (h:LdAt w0 w lb d S v p k G):lb < w.heap.size:=cell_lt h.h0
theorem ext (h:LdAt w0 w lb d S v p k G) (e:Ext w w'):LdAt w0 w' lb d S v p k G:=
 { h with
   toHAt:=h.toHAt.ext e
   ext0:=h.ext0.trans e
   h0:=(e.cell h.lt1 0).trans h.h0
   h1:=(e.cell h.lt1 1).trans h.h1
   fz:=fun j=>(e.frozen h.lt1 j).trans (h.fz j)
   r:=h.r.ext e }
theorem turn (h:LdAt w0 w lb d S v p k G) {S':Hp.Hs} (e:But d.own w w') (h':HAt w' d S'):LdAt w0 w' lb d S' v p k G:=
 { toHAt:=h'
   ext0:=But.toExt h.ext0 e h.own0
   h0:=(e.cell h.lt1 h.lbn 0).trans h.h0
   h1:=(e.cell h.lt1 h.lbn 1).trans h.h1
   fz:=fun j=>(e.frozen h.lt1 h.lbn j).trans (h.fz j)
   r:=h.r.but_ e (fun b o q=>(h.n b o q).2.1)
   lb0:=h.lb0
   own0:=h.own0
   lbn:=h.lbn
   n:=h.n
   spn:=h.spn
   opn:=h.opn }
theorem mapped (h:LdAt w0 w lb d S v p k G) {T:List Nat} (e:w.mapTurned w' d.gm) (hm:MapAt Tryz.prog w' d.gm T) (hb:∀ a ∈ T,a < S.words.length):LdAt w0 w' lb d { S with taken:=T } v p k G:=
 h.turn ((But.refl _ _).turned e (.inl d.gm_own)) (h.toHAt.mapped e hm hb)
theorem grow (h:LdAt w0 w lb d S v p k G) {g cap:Nat} {row:Option Nat} {G':List Int} (hR:Row w' 0 (some ⟨g,0,none⟩) cap G') (hG:w.grownBy w' row) (hrow:∀ r,row=some r → p=some ⟨r,0,none⟩) (hg:p=some ⟨g,0,none⟩ ∨ g=w.heap.size) :
    LdAt w0 w' lb d S v (some ⟨g,0,none⟩) cap G':=by
  have kb:But row.toList w w':=⟨hG.os,hG.tape,hG.output,hG.size,fun i hi hn=>hG.block i hi (fun e=>hn (by rw [← e];simp))⟩
  have far:∀ b,(∀ r,p=some ⟨r,0,none⟩ → b ≠ r) → b ∉ row.toList:=fun b hb hm=>by
   have e:row=some b:=by simpa using hm
   exact hb b (hrow b e) rfl
  have own:∀ b ∈ d.own,b ∉ row.toList:=fun b hb=>far b fun r e er=>(h.n r 0 e).2.1 (er ▸ hb)
  have sbf:lb ∉ row.toList:=far lb fun r e er=>(h.n r 0 e).2.2 er.symm
  have e0:=h.ext0.le;have l1:=h.lt1;have og:=h.toHAt.own_lt;have new:w0.heap.size ≤ g ∧ g ∉ d.own ∧ g ≠ lb:=by
   rcases hg with e | rfl
   · exact h.n g 0 e
   · exact ⟨e0,fun hm=>by have:=og _ hm;omega,by omega⟩
  exact
  { toHAt:=h.toHAt.but kb (own _ d.hb_own) (own _ d.gw_own) (own _ d.gm_own) (fun b o e=>far b fun r er e2=>(h.spn b o e).2 0 (e2 ▸ er)) (fun b o e=>far b fun r er e2=>(h.opn b o e).2 0 (e2 ▸ er))
    ext0:=h.ext0.grown hG (fun r e=>(h.n r 0 (hrow r e)).1)
    h0:=(kb.cell l1 sbf 0).trans h.h0
    h1:=(kb.cell l1 sbf 1).trans h.h1
    fz:=fun j=>(kb.frozen l1 sbf j).trans (h.fz j)
    r:=hR
    lb0:=h.lb0
    own0:=h.own0
    lbn:=h.lbn
    n:=fun b o e=>by cases e;exact new
    spn:=fun b o e=>⟨(h.spn b o e).1,fun o' e'=>by
     cases e'
     rcases hg with hg | rfl
     · exact (h.spn g o e).2 0 hg
     · have:=h.old1 _ o e;omega⟩
    opn:=fun b o e=>⟨(h.opn b o e).1,fun o' e'=>by
     cases e'
     rcases hg with hg | rfl
     · exact (h.opn g o e).2 0 hg
     · have:=h.old2 _ o e;omega⟩ }
theorem cut {P:Program} {cd:Code} {Q:Exit → Act → World → Prop} {a:Act} (h:LdAt w0 w lb d S v p k G) (hk:∀ w',LdAt w0 w' lb d S v p k G → cd.wp P Q a w'):cd.wp P Q a w:=hk w h
end LdAt
open Go.RowKit Go.Maps
theorem wpList_append_own {w:World} {ops:Array Oper} {rest:List Oper} {o:Oper} {a:Act} {Q:Exit → Act → World → Prop} (hgd:o.guard=none) (s x:Operand)
    (ho:o.op = .call { callee:=.builtin .append,args:=#[s,x],argTypes:=#[22,22] }) {c b:Nat} {p:Option Addr} {l:List Int} {y:Int} (hs:a.eval s = .slice p l.length c) (hx:a.eval x = .slice (some ⟨b,0,none⟩) 1 1)
    (hrow:Row w 0 p c l) (hy:w.cell? ⟨b,0,none⟩=some (.int .i64 y)) (hy1 : -9223372036854775808 ≤ y) (hy2:y ≤ 9223372036854775807) (hlen:l.length < 10000000)
    (h:∀ g cap w' row,Row w' 0 (some ⟨g,0,none⟩) cap (l ++ [y]) → w.grownBy w' row → (∀ r,row=some r → p=some ⟨r,0,none⟩) → (p=some ⟨g,0,none⟩ ∨ g=w.heap.size) → g < w'.heap.size → wpList Tryz.prog ops Q rest (a.put o.dst (.slice (some ⟨g,0,none⟩) (l.length+1) cap)) w'):wpList Tryz.prog ops Q (o :: rest) a w:=by
  obtain ⟨i0,hi,hz0,hz1,hz2⟩:=info_parts (show (Tryz.prog.info? 3).map (fun i=>(i.zero,i.size,i.bytes))=some (some (.int .i64 0),1,8) from by kernel_rfl);refine wpList_append_lies w hgd s x 22 ho 0 3 i0 (.int .i64 0) 1 8 Tryz.underlying22 hi hz0 hz1 hz2 rfl (by decide) _ _ _ hs hrow.1 ⟨b,0,none⟩ 1 1 [.int .i64 y] hx (by simp) (fun j u hj=>?_) (by simp [Value.oneCell']) (by omega) (by unfold maxLen;omega) (by omega) (Nat.zero_le _) _ rfl ?_
  · cases j with
    | zero=>
     simp at hj;subst hj;rw [Addr.add_lit];exact hy
    | succ j=>simp at hj
  · intro g cap w' hown hgrow hor hlt;have own:=row_own hrow;refine h g cap w' _ ⟨by simpa [ints] using hown,fun z hz=>?_⟩ hgrow own (hor.imp (own g) id) hlt
    rcases List.mem_append.1 hz with hz | hz
    · exact hrow.2 z hz
    · have:z=y:=by simpa using hz
      subst this;exact ⟨hy1,hy2⟩
theorem dSame_any {w:World} {p q:Option Addr} {c d:Nat} {l m:List Int} (h:SliceAt w p c l) (k:SliceAt w q d m) :
    Calls Tryz.prog 24 #[.slice p l.length c,.slice q m.length d] w fun e w'=>e = .returned (.bool (decide (l=m))) ∧ Ext w w':=by
  by_cases hne:l.length=m.length
  case neg=>
   have e:decide (l=m)=false:=by
    apply decide_eq_false;intro e;exact hne (by rw [e])
   rw [e];have hle:=h.le;have hcap:=h.cap;have hle':=k.le;have hcap':=k.cap;clear h k e;generalize l.length=a at *;generalize m.length=b at *;have e1:((a:Int) == (b:Int))=false:=by simpa using (by omega:¬ (a:Int)=b)
   go_enter Tryz.func24,Tryz.ntmps24;go_wp2;go_returns;exact ⟨rfl,exx⟩
  case pos=>
   have hle:=h.le;have hcap:=h.cap;have hcap':=k.cap;have H:=Lib.hid h;have K:=Lib.hid k;clear h k;rw [← hne];have HM:=Lib.hid hne;clear hne;generalize hL:l.length=n at hle ⊢;have HL:=Lib.hid hL;clear hL;have mixed:Tryz.prog.follows .mixedOrders=true:=by kernel_rfl
   go_enter Tryz.func24,Tryz.ntmps24;go_wp2
   go_loopg [5] n (fun g i wr=>∃ j:Nat,j ≤ n ∧ n-j ≤ g ∧ i = .int .i64 j ∧ Aside (Ext w wr) ∧ Aside (∀ i,i < j → Hp.rd l i=Hp.rd m i))
   case atStart=>exact ⟨0,Nat.zero_le _,by omega,rfl,Ext.refl w,fun m hm=>absurd hm (Nat.not_lt_zero _)⟩
   case round=>
    obtain ⟨j,hj,hg,rfl,HE,HA⟩:=hrel
    by_cases hlt:j < n
    · obtain ⟨f,hf⟩:=rd_get (l:=l) (j:=j) (by rw [HL.out];exact hlt);obtain ⟨f',hf'⟩:=rd_get (l:=m) (j:=j) (by rw [← HM.out,HL.out];exact hlt);obtain ⟨b,o,rfl,hb,hc⟩:=(H.out.ext HE.out).cells (by rw [HL.out];omega);obtain ⟨b',o',rfl,hb',hc'⟩:=(K.out.ext HE.out).cells (by rw [← HM.out,HL.out];omega);have g1:=hc j f hf;have g2:=hc' j f' hf';have HF:=Lib.hid hf;have HF':=Lib.hid hf';clear hf hc hf' hc'
      by_cases he:f=f'
      · subst he
        go_wp2_with fail
        go_region_o
        go_wp2
        go_roundg (n-(j+1))
        case measure=>omega
        case rel=>
         refine ⟨j+1,by omega,by omega,by go_num,(show Aside _ from HE.out.drew),(show Aside _ from fun i hi=>?_)⟩
         by_cases e:i=j
         · subst e;rw [HF.out,HF'.out]
         · exact HA.out i (by omega)
      · have e1:(f == f')=false:=by simpa using he
        go_wp2_with fail
        go_region_o
        go_wp2;go_returns;refine ⟨?_,HE.out.drew⟩;have e:decide (l=m)=false:=by
         apply decide_eq_false;rintro rfl;have:=HF.out;rw [HF'.out] at this
         cases this
         exact he rfl
        rw [e];rfl
    · have:j=n:=by omega
      subst this;go_wp2;go_returns;refine ⟨?_,HE.out⟩;have e:decide (l=m)=true:=decide_eq_true (eq_of_rd HM.out (by rw [HL.out];exact HA.out));rw [e];rfl
theorem dSame_is {w:World} {p q:Option Addr} {c d:Nat} {l m:List Int} {b:Bool} (hb:decide (l=m)=b) (h:SliceAt w p c l) (k:SliceAt w q d m) :
    Calls Tryz.prog 24 #[.slice p l.length c,.slice q m.length d] w fun e w'=>e = .returned (.bool b) ∧ Ext w w':=by
  subst hb;exact dSame_any h k
def lastWords:List Int:=[0,20,2,0,0,5,20,1,0,0,7,2,1,0,0,17,22,1,0,0,0,17,27]
theorem last_any (w:World):Calls Tryz.prog 58 #[] w fun e w'=>e = .returned (.slice (some ⟨w.heap.size,0,none⟩) 23 23) ∧ w'=w.alloc (.cells (ints lastWords).toArray 3):=by
 go_enter Tryz.func58,Tryz.ntmps58
 go_wp2
 go_returns
 exact ⟨rfl,rfl⟩
def Hp.rest (W:List Int) (a v:Nat):List Int:=(W.drop (a+3)).take (v-3)
theorem SliceAt.two (w:World) (x y:Int) (hx : -9223372036854775808 ≤ x ∧ x ≤ 9223372036854775807) (hy : -9223372036854775808 ≤ y ∧ y ≤ 9223372036854775807) (t:TypeId):SliceAt (w.alloc (.cells #[.int .i64 x,.int .i64 y] t)) (some ⟨w.heap.size,0,none⟩) 2 [x,y]:=by
 refine ⟨by simp,by omega,fun z hz=>?_,fun _=>⟨w.heap.size,0,rfl,by simp,fun j z hj=>?_⟩⟩
 · rcases List.mem_cons.1 hz with rfl | hz
   · exact hx
   · have:z=y:=by simpa using hz
     subst this;exact hy
 · match j,hj with
   | 0,hj=>simp [Hp.rd] at hj;subst hj;simp [go_sem]
   | 1,hj=>simp [Hp.rd] at hj;subst hj;simp [go_sem]
   | j+2,hj=>simp [Hp.rd] at hj
theorem SliceAt.two_ (w:World) (g:Nat) (hg:g=w.heap.size) (x y:Int) (hx : -9223372036854775808 ≤ x ∧ x ≤ 9223372036854775807) (hy : -9223372036854775808 ≤ y ∧ y ≤ 9223372036854775807) (t:TypeId):SliceAt (w.alloc (.cells #[.int .i64 x,.int .i64 y] t)) (some ⟨g,0,none⟩) 2 [x,y]:=by
 subst hg
 exact SliceAt.two w x y hx hy t
theorem new_two {n:Nat} {W:World} {S0:Hp.Hs} {g1 g2:Nat} (hn:32 ≤ n) (hn2:n ≤ 40000) (he:Hp.newErr [2,2] [0,1] n=0) (h0:Hp.new [2,2] [0,1] n=some S0) (h1:SliceAt W (some ⟨g1,0,none⟩) 2 [2,2]) (h2:SliceAt W (some ⟨g2,0,none⟩) 2 [0,1]) :
    Calls Tryz.prog 36 #[.slice (some ⟨g1,0,none⟩) 2 2,.slice (some ⟨g2,0,none⟩) 2 2,.int .i64 n] W (NewPost W S0):=
  New_any (sizes:=[2,2]) (order:=[0,1]) h1 h2 (.inl (by simp)) (.inl (by simp)) (by simp) (by simp) hn hn2 he h0 (by simp)
def PairPost (w:World) (S:Hp.Hs) (e:Ending) (w':World):Prop:=∃ d:Hd,e = .returned (.tuple #[.pointer (some ⟨d.hb,0,none⟩),.agg #[.int .i64 17,.int .i64 22,.int .i64 27],.bool true]) ∧ HAt w' d S ∧ (∀ b ∈ d.own,w.heap.size ≤ b) ∧ Ext w w' ∧ (∀ b o,d.sp=some ⟨b,o,none⟩ → w.heap.size ≤ b) ∧ ∀ b o,d.op=some ⟨b,o,none⟩ → w.heap.size ≤ b
set_option maxRecDepth 100000 in
set_option maxHeartbeats 8000000 in
theorem pair_any {n:Nat} {w:World} {S0 S1 S2 S3:Hp.Hs} (hn:32 ≤ n) (hn2:n ≤ 40000) (he:Hp.newErr [2,2] [0,1] n=0) (h0:Hp.new [2,2] [0,1] n=some S0) (h1:S0.end' (0:Nat) 5=some (17,0,S1)) (h2:S1.end' (0:Nat) 7=some (22,0,S2)) (h3:S2.make 1 [17,22]=some (27,0,S3)) :
    Calls Tryz.prog 55 #[.int .i64 n] w (PairPost w S3):=by
  have HE:=Lib.hid he;have H0:=Lib.hid h0;have H1:=Lib.hid h1;have H2:=Lib.hid h2;have H3:=Lib.hid h3;clear he h0 h1 h2 h3;go_enter Tryz.func55,Tryz.ntmps55;have q1:SliceAt (((w.alloc (.cells #[.int .i64 0,.int .i64 0,.int .i64 0] 97)).alloc (.cells #[.int .i64 2,.int .i64 2] 3)).alloc (.cells #[.int .i64 0,.int .i64 1] 3)) (some ⟨w.heap.size+1,0,none⟩) 2 [2,2]:=(SliceAt.two_ _ _ (by simp) 2 2 (by omega) (by omega) _).ext (Ext.alloc (Ext.refl _) _);have q2:SliceAt (((w.alloc (.cells #[.int .i64 0,.int .i64 0,.int .i64 0] 97)).alloc (.cells #[.int .i64 2,.int .i64 2] 3)).alloc (.cells #[.int .i64 0,.int .i64 1] 3)) (some ⟨w.heap.size+1+1,0,none⟩) 2 [0,1]:=SliceAt.two_ _ _ (by simp) 0 1 (by omega) (by omega) _;go_upto_region 2 with (go_at_call 36;refine (new_two hn hn2 HE.out H0.out q1 q2).mono ?_;rintro e w1 ⟨d,rfl,hA1,o1,E1,s1,s2⟩)
  have EW:Ext w w1:=exx;have N1:=Lib.hid (Now.refl hA1);have O1:∀ b ∈ d.own,w.heap.size+3 ≤ b:=fun b hb=>by have:=o1 b hb;simp at this;omega
  have OH:=Lib.hid O1;have S1H:=Lib.hid (fun b o (e:d.sp=some ⟨b,o,none⟩)=>(by have:=s1 b o e;simp at this;omega:w.heap.size+3 ≤ b));have S2H:=Lib.hid (fun b o (e:d.op=some ⟨b,o,none⟩)=>(by have:=s2 b o e;simp at this;omega:w.heap.size+3 ≤ b));clear s1 s2;have z1:w.heap.size+3 ≤ w1.heap.size:=by have:=E1.le;simp at this;omega
  have bx:∀ k,k < 3 → w1.cell? ⟨w.heap.size,k,none⟩=some (.int .i64 0):=fun k hk=>by
   rw [E1.cell (by simp;omega) k];have:k=0 ∨ k=1 ∨ k=2:=by omega
   rcases this with rfl | rfl | rfl <;> simp [go_sem]
  have BX:=Lib.hid bx;have fx:∀ k,w1.frozen? ⟨w.heap.size,k,none⟩=false:=fun k=>by
   rw [E1.frozen (by simp;omega) k];simp [go_sem]
  have FX:=Lib.hid fx;clear hA1 o1 O1 E1 bx fx q1 q2;go_upto_region 3 with (go_at_call 43;refine (End_any N1.out.toHAt (f:=0) (by omega) (by omega) (by omega) H1.out).mono ?_;rintro e w2 ⟨rfl,A2⟩)
  have N2:=Lib.hid (Now.mk A2.toHAt (N1.out.but.trans A2.but));clear A2 N1;go_upto_region 4 with (go_at_call 43;refine (End_any N2.out.toHAt (f:=0) (by omega) (by omega) (by omega) H2.out).mono ?_;rintro e w3 ⟨rfl,A3⟩)
  have N3:=Lib.hid (Now.mk A3.toHAt (N2.out.but.trans A3.but));clear A3 N2;have q3:SliceAt (w3.alloc (.cells #[.int .i64 17,.int .i64 22] 3)) (some ⟨w3.heap.size,0,none⟩) 2 [17,22]:=SliceAt.two w3 17 22 (by omega) (by omega) _;have E3:Ext w3 (w3.alloc (.cells #[.int .i64 17,.int .i64 22] 3)):=Ext.alloc (Ext.refl _) _
  have M3:Calls Tryz.prog 44 #[.pointer (some ⟨d.hb,0,none⟩),.int .i64 1,.slice (some ⟨w3.heap.size,0,none⟩) 2 2] (w3.alloc (.cells #[.int .i64 17,.int .i64 22] 3)) (Added d (w3.alloc (.cells #[.int .i64 17,.int .i64 22] 3)) (27,0,S3)):=
   Make_any (l:=[17,22]) (N3.out.ext E3).toHAt q3 (fun b o e hm=>by
    cases e
    have:=N3.out.own_lt _ hm;omega) (by omega) (by omega) H3.out
  clear q3;go_upto_region 5 with (go_at_call 44;refine M3.mono ?_;rintro e w4 ⟨rfl,A4⟩)
  have N4:=Lib.hid (Now.mk A4.toHAt ((N3.out.but.ext E3).trans A4.but));have hx:w.heap.size ∉ d.own:=fun hm=>by have:=OH.out _ hm;omega
  have c0:=(N4.out.but.cell (by omega) hx 0).trans (BX.out 0 (by omega));have c1:=(N4.out.but.cell (by omega) hx 1).trans (BX.out 1 (by omega));have c2:=(N4.out.but.cell (by omega) hx 2).trans (BX.out 2 (by omega));have f0:=(N4.out.but.frozen (by omega) hx 0).trans (FX.out 0);have f1:=(N4.out.but.frozen (by omega) hx 1).trans (FX.out 1);have f2:=(N4.out.but.frozen (by omega) hx 2).trans (FX.out 2);clear A4 M3 N3 E3
  go_wp2_with fail
  have kb:But [w.heap.size] w4 (((w4.setCell ⟨w.heap.size,0,none⟩ (.int .i64 17)).setCell ⟨w.heap.size,1,none⟩ (.int .i64 22)).setCell ⟨w.heap.size,2,none⟩ (.int .i64 27)):=
   (((But.refl _ _).setCell (.inl (by simp)) _).setCell (.inl (by simp)) _).setCell (.inl (by simp)) _
  have hx2:=OH.out _ d.hb_own;have hx3:=OH.out _ d.gw_own;have hx4:=OH.out _ d.gm_own
  have A5:HAt (((w4.setCell ⟨w.heap.size,0,none⟩ (.int .i64 17)).setCell ⟨w.heap.size,1,none⟩ (.int .i64 22)).setCell ⟨w.heap.size,2,none⟩ (.int .i64 27)) d S3:=
   N4.out.toHAt.but kb (by simp;omega) (by simp;omega) (by simp;omega) (fun b o e=>by have:=S1H.out b o e;simp;omega) (fun b o e=>by have:=S2H.out b o e;simp;omega)
  have X4:Ext w w4:=But.toExt EW N4.out.but (fun b hb=>by have:=OH.out b hb;omega);refine bodyPost_ret (v:=.tuple #[.pointer (some ⟨d.hb,0,none⟩),.agg #[.int .i64 17,.int .i64 22,.int .i64 27],.bool true]) (by simp [results,Tryz.results55,go_sem, *]) rfl ⟨d,rfl,A5,(fun b hb=>by have:=OH.out b hb;omega),exx,(fun b o e=>by have:=S1H.out b o e;omega),(fun b o e=>by have:=S2H.out b o e;omega)⟩
namespace Aw
def none':Hp.Hs:=⟨[],[],[],[]⟩
def S0:Hp.Hs:=(Hp.new [2,2] [0,1] 39).getD none'
def S1:Hp.Hs:=((S0.end' (0:Nat) 5).getD (0,0,none')).2.2
def S2:Hp.Hs:=((S1.end' (0:Nat) 7).getD (0,0,none')).2.2
def S3:Hp.Hs:=((S2.make 1 [17,22]).getD (0,0,none')).2.2
def S4:Hp.Hs:=((S3.make 0 [17,27]).getD (0,0,none')).2.2
def S5:Hp.Hs:=((S4.hold 27).getD (0,none')).2
def S6:Hp.Hs:=(S5.collect.getD (0,none')).2
def L6:List (Nat × Nat):=(S6.piecesFrom S6.fuel 17).getD []
theorem e0:Hp.new [2,2] [0,1] 39=some S0:=by kernel_rfl
theorem ee:Hp.newErr [2,2] [0,1] (39:Nat)=0:=by kernel_rfl
theorem e1:S0.end' (0:Nat) 5=some (17,0,S1):=by kernel_rfl
theorem e2:S1.end' (0:Nat) 7=some (22,0,S2):=by kernel_rfl
theorem e3:S2.make 1 [17,22]=some (27,0,S3):=by kernel_rfl
theorem e4:S3.make 0 [17,27]=some (33,0,S4):=by kernel_rfl
theorem e5:S4.hold 27=some (0,S5):=by kernel_rfl
theorem e6:S5.collect=some (1,S6):=by kernel_rfl
theorem el:S6.live=some [17,22,27]:=by kernel_rfl
theorem ep:S6.piecesFrom S6.fuel 17=some L6:=by kernel_rfl
theorem eg:S6.gapSums L6=(6,6):=by kernel_rfl
theorem et:S6.taken.length=3:=by kernel_rfl
theorem ew:S4.words.length=39:=by kernel_rfl
theorem es:decide (S4.words.drop 16=lastWords)=true:=by kernel_rfl
theorem r1:Hp.rd S4.words 1=some 17:=by kernel_rfl
theorem r3:Hp.rd S4.words 3=some 22:=by kernel_rfl
theorem r11:Hp.rd S4.words 11=some 27:=by kernel_rfl
theorem r14:Hp.rd S4.words 14=some 33:=by kernel_rfl
theorem h27:S6.has (27:Nat)=true:=by kernel_rfl
theorem t27:S6.tag 27=some 2:=by kernel_rfl
theorem k27:S6.kids 27=some [17,22]:=by kernel_rfl
theorem h22:S6.has (22:Nat)=true:=by kernel_rfl
theorem t22:S6.tag 22=some 20:=by kernel_rfl
theorem n22:Hp.rd S6.words (22+4)=some 7:=by kernel_rfl
end Aw
end Go.Proofs.YtdokmmhjmclmnaaGreat
