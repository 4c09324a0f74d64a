/-
  Part 13 of a proof: HLoadM HFn46 HFn47 HFn48.
-/
import Derived.BigQuiet
import Derived.Test.YtdokmmhjmclmnaaGreatMN02
import Derived.Test.YtdokmmhjmclmnaaGreatMN03
import Derived.Test.YtdokmmhjmclmnaaGreatMN04
import Derived.Test.YtdokmmhjmclmnaaGreatMN11
import Derived.Test.YtdokmmhjmclmnaaGreatMN12
set_option linter.unusedSimpArgs false
set_option linter.unusedVariables false
set_option linter.unusedSectionVars false
set_option linter.unnecessarySimpa false
namespace Go.Proofs.YtdokmmhjmclmnaaGreat
open Go.RowKit
def Hp.Hs.walkFrom (S:Hp.Hs):Nat → Nat → List Nat → List Int → Option (Option (List Nat × List Int))
 | 0,_,_,_=>none
 | n+1,a,T,G=>
  if S.words.length ≤ a then some (some (T,G)) else do
  let t ← Hp.rd S.words a
  if t=0 then
   if S.words.length < a+3 then some none else do
   let v ← Hp.rd S.words (a+1)
   if 3 ≤ v ∧ a+v ≤ S.words.length then S.walkFrom n (a+v.toNat) T (G ++ [(a:Int)]) else some none
  else if Hp.within 1 S.sizes.length t || Hp.isEnd t then do
   let k ← Hp.wide S.sizes t
   if a+k ≤ S.words.length then S.walkFrom n (a+k) (Hp.Hs.insert a T) G else some none
  else some none
structure LdAt (w0 w:World) (lb:Nat) (d:Hd) (S:Hp.Hs) (v:Value) (p:Option Addr) (k:Nat) (G:List Int):Prop extends HAt w d S where
 ext0:Ext w0 w
 h0:w.cell? ⟨lb,0,none⟩=some (.pointer (some ⟨d.hb,0,none⟩))
 h1:w.cell? ⟨lb,1,none⟩=some v
 fz:∀ k,w.frozen? ⟨lb,k,none⟩=false
 r:Row w 0 p k G
 lb0:w0.heap.size ≤ lb
 own0:∀ b ∈ d.own,w0.heap.size ≤ b
 lbn:lb ∉ d.own
 n:∀ b o,p=some ⟨b,o,none⟩ → w0.heap.size ≤ b ∧ b ∉ d.own ∧ b ≠ lb
 spn:∀ b o,d.sp=some ⟨b,o,none⟩ → b ≠ lb ∧ ∀ o',p ≠ some ⟨b,o',none⟩
 opn:∀ b o,d.op=some ⟨b,o,none⟩ → b ≠ lb ∧ ∀ o',p ≠ some ⟨b,o',none⟩
namespace LdAt
variable {w0 w w':World} {lb:Nat} {d:Hd} {S:Hp.Hs} {v:Value} {p:Option Addr} {k:Nat} {G:List Int}
theorem lt1 (h:LdAt w0 w lb d S v p k G):lb < w.heap.size:=cell_lt h.h0
theorem ext (h:LdAt w0 w lb d S v p k G) (e:Ext w w'):LdAt w0 w' lb d S v p k G:=
 { h with
   toHAt:=h.toHAt.ext e
   ext0:=h.ext0.trans e
   h0:=(e.cell h.lt1 0).trans h.h0
   h1:=(e.cell h.lt1 1).trans h.h1
   fz:=fun j=>(e.frozen h.lt1 j).trans (h.fz j)
   r:=h.r.ext e }
theorem turn (h:LdAt w0 w lb d S v p k G) {S':Hp.Hs} (e:But d.own w w') (h':HAt w' d S'):LdAt w0 w' lb d S' v p k G:=
 { toHAt:=h'
   ext0:=But.toExt h.ext0 e h.own0
   h0:=(e.cell h.lt1 h.lbn 0).trans h.h0
   h1:=(e.cell h.lt1 h.lbn 1).trans h.h1
   fz:=fun j=>(e.frozen h.lt1 h.lbn j).trans (h.fz j)
   r:=h.r.but_ e (fun b o q=>(h.n b o q).2.1)
   lb0:=h.lb0
   own0:=h.own0
   lbn:=h.lbn
   n:=h.n
   spn:=h.spn
   opn:=h.opn }
theorem mapped (h:LdAt w0 w lb d S v p k G) {T:List Nat} (e:w.mapTurned w' d.gm) (hm:MapAt Tryz.prog w' d.gm T) (hb:∀ a ∈ T,a < S.words.length):LdAt w0 w' lb d { S with taken:=T } v p k G:=
 h.turn ((But.refl _ _).turned e (.inl d.gm_own)) (h.toHAt.mapped e hm hb)
theorem grow (h:LdAt w0 w lb d S v p k G) {g cap:Nat} {row:Option Nat} {G':List Int} (hR:Row w' 0 (some ⟨g,0,none⟩) cap G') (hG:w.grownBy w' row) (hrow:∀ r,row=some r → p=some ⟨r,0,none⟩) (hg:p=some ⟨g,0,none⟩ ∨ g=w.heap.size) :
    LdAt w0 w' lb d S v (some ⟨g,0,none⟩) cap G':=by
  have kb:But row.toList w w':=⟨hG.os,hG.tape,hG.output,hG.size,fun i hi hn=>hG.block i hi (fun e=>hn (by rw [← e];simp))⟩
  have far:∀ b,(∀ r,p=some ⟨r,0,none⟩ → b ≠ r) → b ∉ row.toList:=fun b hb hm=>by
   have e:row=some b:=by simpa using hm
   exact hb b (hrow b e) rfl
  have own:∀ b ∈ d.own,b ∉ row.toList:=fun b hb=>far b fun r e er=>(h.n r 0 e).2.1 (er ▸ hb)
  have sbf:lb ∉ row.toList:=far lb fun r e er=>(h.n r 0 e).2.2 er.symm
  have e0:=h.ext0.le;have l1:=h.lt1;have og:=h.toHAt.own_lt;have new:w0.heap.size ≤ g ∧ g ∉ d.own ∧ g ≠ lb:=by
   rcases hg with e | rfl
   · exact h.n g 0 e
   · exact ⟨e0,fun hm=>by have:=og _ hm;omega,by omega⟩
  exact
  { toHAt:=h.toHAt.but kb (own _ d.hb_own) (own _ d.gw_own) (own _ d.gm_own) (fun b o e=>far b fun r er e2=>(h.spn b o e).2 0 (e2 ▸ er)) (fun b o e=>far b fun r er e2=>(h.opn b o e).2 0 (e2 ▸ er))
    ext0:=h.ext0.grown hG (fun r e=>(h.n r 0 (hrow r e)).1)
    h0:=(kb.cell l1 sbf 0).trans h.h0
    h1:=(kb.cell l1 sbf 1).trans h.h1
    fz:=fun j=>(kb.frozen l1 sbf j).trans (h.fz j)
    r:=hR
    lb0:=h.lb0
    own0:=h.own0
    lbn:=h.lbn
    n:=fun b o e=>by cases e;exact new
    spn:=fun b o e=>⟨(h.spn b o e).1,fun o' e'=>by
     cases e'
     rcases hg with hg | rfl
     · exact (h.spn g o e).2 0 hg
     · have:=h.old1 _ o e;omega⟩
    opn:=fun b o e=>⟨(h.opn b o e).1,fun o' e'=>by
     cases e'
     rcases hg with hg | rfl
     · exact (h.opn g o e).2 0 hg
     · have:=h.old2 _ o e;omega⟩ }
theorem stored (h:LdAt w0 w lb d S v p k G):LdAt w0 (w.setCell ⟨lb,1,none⟩ (.slice p G.length k)) lb d S (.slice p G.length k) p k G:=by
 have e:But [lb] w (w.setCell ⟨lb,1,none⟩ (.slice p G.length k)):=(But.refl _ _).setCell (.inl (by simp)) _
 have o:∀ x ∈ d.own,x ∉ [lb]:=fun x hx hm=>by
  have:x=lb:=by simpa using hm
  subst this;exact h.lbn hx
 exact
 { toHAt:=h.toHAt.but e (o _ d.hb_own) (o _ d.gw_own) (o _ d.gm_own) (fun b o' q hm=>(h.spn b o' q).1 (by simpa using hm)) (fun b o' q hm=>(h.opn b o' q).1 (by simpa using hm))
   ext0:=Ext.setCell h.ext0 h.lb0 _
   h0:=by simpa [go_sem] using h.h0
   h1:=World.cell?_setCell_same _ _ _ h.h1
   fz:=fun j=>by simpa [go_sem] using h.fz j
   r:=h.r.but_ e (fun b o' q hm=>(h.n b o' q).2.2 (by simpa using hm))
   lb0:=h.lb0
   own0:=h.own0
   lbn:=h.lbn
   n:=h.n
   spn:=h.spn
   opn:=h.opn }
theorem cut {P:Program} {cd:Code} {Q:Exit → Act → World → Prop} {a:Act} (h:LdAt w0 w lb d S v p k G) (hk:∀ w',LdAt w0 w' lb d S v p k G → cd.wp P Q a w'):cd.wp P Q a w:=hk w h
end LdAt
theorem walkFrom_succ {S:Hp.Hs} {n a:Nat} {T:List Nat} {G:List Int} {R:Option (List Nat × List Int)} (h:S.walkFrom n a T G=some R) :
    (S.words.length ≤ a ∧ R=some (T,G)) ∨ (a < S.words.length ∧ ∃ n' t,n=n'+1 ∧ Hp.rd S.words a=some t ∧
     ((t=0 ∧ S.words.length < a+3 ∧ R=none) ∨
      (t=0 ∧ a+3 ≤ S.words.length ∧ ∃ v,Hp.rd S.words (a+1)=some v ∧ ((3 ≤ v ∧ a+v ≤ S.words.length ∧ S.walkFrom n' (a+v.toNat) T (G ++ [(a:Int)])=some R) ∨ (¬ (3 ≤ v ∧ a+v ≤ S.words.length) ∧ R=none))) ∨
      (t ≠ 0 ∧ (Hp.within 1 S.sizes.length t=true ∨ Hp.isEnd t=true) ∧ ∃ k,Hp.wide S.sizes t=some k ∧ ((a+k ≤ S.words.length ∧ S.walkFrom n' (a+k) (Hp.Hs.insert a T) G=some R) ∨ (¬ a+k ≤ S.words.length ∧ R=none))) ∨
      (t ≠ 0 ∧ Hp.within 1 S.sizes.length t=false ∧ Hp.isEnd t=false ∧ R=none))):=by
  cases n with
  | zero=>simp [Hp.Hs.walkFrom] at h
  | succ n=>
   unfold Hp.Hs.walkFrom at h
   split at h
   · rename_i hge;exact .inl ⟨hge,by simpa using h.symm⟩
   · rename_i hlt;simp only [Option.bind_eq_bind,Option.bind_eq_some_iff] at h;obtain ⟨t,ht,h⟩:=h;refine .inr ⟨by omega,n,t,rfl,ht, ?_⟩
     split at h
     · rename_i h0
       split at h
       · rename_i h3;exact .inl ⟨h0,h3,by simpa using h.symm⟩
       · rename_i h3;simp only [Option.bind_eq_some_iff] at h;obtain ⟨v,hv,h⟩:=h;refine .inr (.inl ⟨h0,by omega,v,hv, ?_⟩)
         split at h
         · rename_i h4;exact .inl ⟨h4.1,h4.2,h⟩
         · rename_i h4;exact .inr ⟨h4,by simpa using h.symm⟩
     · rename_i h0
       split at h
       · rename_i h1;simp only [Option.bind_eq_some_iff] at h;obtain ⟨k,hk,h⟩:=h;refine .inr (.inr (.inl ⟨h0,by simpa using h1,k,hk, ?_⟩))
         split at h
         · rename_i h4;exact .inl ⟨h4,h⟩
         · rename_i h4;exact .inr ⟨h4,by simpa using h.symm⟩
       · rename_i h1;simp only [Bool.or_eq_true,not_or,Bool.not_eq_true] at h1;exact .inr (.inr (.inr ⟨h0,h1.1,h1.2,by simpa using h.symm⟩))
open Go.RowKit Go.Maps
theorem wpList_append_own {w:World} {ops:Array Oper} {rest:List Oper} {o:Oper} {a:Act} {Q:Exit → Act → World → Prop} (hgd:o.guard=none) (s x:Operand)
    (ho:o.op = .call { callee:=.builtin .append,args:=#[s,x],argTypes:=#[22,22] }) {c b:Nat} {p:Option Addr} {l:List Int} {y:Int} (hs:a.eval s = .slice p l.length c) (hx:a.eval x = .slice (some ⟨b,0,none⟩) 1 1)
    (hrow:Row w 0 p c l) (hy:w.cell? ⟨b,0,none⟩=some (.int .i64 y)) (hy1 : -9223372036854775808 ≤ y) (hy2:y ≤ 9223372036854775807) (hlen:l.length < 10000000)
    (h:∀ g cap w' row,Row w' 0 (some ⟨g,0,none⟩) cap (l ++ [y]) → w.grownBy w' row → (∀ r,row=some r → p=some ⟨r,0,none⟩) → (p=some ⟨g,0,none⟩ ∨ g=w.heap.size) → g < w'.heap.size → wpList Tryz.prog ops Q rest (a.put o.dst (.slice (some ⟨g,0,none⟩) (l.length+1) cap)) w'):wpList Tryz.prog ops Q (o :: rest) a w:=by
  obtain ⟨i0,hi,hz0,hz1,hz2⟩:=info_parts (show (Tryz.prog.info? 3).map (fun i=>(i.zero,i.size,i.bytes))=some (some (.int .i64 0),1,8) from by kernel_rfl);refine wpList_append_lies w hgd s x 22 ho 0 3 i0 (.int .i64 0) 1 8 Tryz.underlying22 hi hz0 hz1 hz2 rfl (by decide) _ _ _ hs hrow.1 ⟨b,0,none⟩ 1 1 [.int .i64 y] hx (by simp) (fun j u hj=>?_) (by simp [Value.oneCell']) (by omega) (by unfold maxLen;omega) (by omega) (Nat.zero_le _) _ rfl ?_
  · cases j with
    | zero=>
     simp at hj;subst hj;rw [Addr.add_lit];exact hy
    | succ j=>simp at hj
  · intro g cap w' hown hgrow hor hlt;have own:=row_own hrow;refine h g cap w' _ ⟨by simpa [ints] using hown,fun z hz=>?_⟩ hgrow own (hor.imp (own g) id) hlt
    rcases List.mem_append.1 hz with hz | hz
    · exact hrow.2 z hz
    · have:z=y:=by simpa using hz
      subst this;exact ⟨hy1,hy2⟩
def LwPost (w0:World) (lb:Nat) (d:Hd) (S:Hp.Hs) (R:Option (List Nat × List Int)) (e:Ending) (w':World):Prop:=
 Ext w0 w' ∧ ((R=none ∧ e = .returned (.bool false)) ∨ ∃ T G p k,R=some (T,G) ∧ e = .returned (.bool true) ∧ LdAt w0 w' lb d { S with taken:=T } (.slice p G.length k) p k G)
set_option maxRecDepth 100000 in
set_option maxHeartbeats 16000000 in
theorem lwalk_any {w0 w:World} {lb:Nat} {d:Hd} {S:Hp.Hs} {R:Option (List Nat × List Int)} (h:LdAt w0 w lb d { S with taken:=[] } (.slice none 0 0) none 0 []) (hr:S.walkFrom S.fuel 17 [] []=some R) :
    Calls Tryz.prog 61 #[.pointer (some ⟨lb,0,none⟩)] w (LwPost w0 lb d S R):=by
  have sm:=h.small;obtain ⟨n,hn⟩:∃ n,S.words.length=n:=⟨_,rfl⟩
  have EN:=Lib.hid hn;simp only at sm;rw [hn] at sm;have H:=Lib.hid h;have HR:=Lib.hid hr;clear h hr hn;go_enter Tryz.func61,Tryz.ntmps61
  go_wp2_with fail
  go_loopg [3] (S.fuel+1) (fun g i wr=>∃ (a m:Nat) (T:List Nat) (G:List Int) (p:Option Addr) (k:Nat),m+1 ≤ g ∧ i = .int .i64 a ∧ a ≤ 2000000 ∧ G.length ≤ a ∧ Hid (LdAt w0 wr lb d { S with taken:=T } (.slice p G.length k) p k G) ∧ Hid (S.walkFrom m a T G=some R))
  case atStart=>exact ⟨17,S.fuel,[],[],none,0,Nat.le_refl _,rfl,by omega,by simp,H,HR⟩
  case round=>
   obtain ⟨a,m,T,G,p,k,hg,rfl,ha,hgl,N,HW⟩:=hrel;clear H HR;have h0:=N.out.h0;have c2:=N.out.c2;simp only at c2;rw [EN.out] at c2;have z0:=N.out.lt1;have zh:=N.out.lt
   rcases walkFrom_succ HW.out with ⟨hge,rfl⟩ | ⟨hlt,m',t,hm,ht,hq⟩
   · rw [EN.out] at hge;have tk:decide ((a:Int) < (n:Int))=false:=decide_eq_false (by omega)
     go_wp2_with fail
     go_returns;exact ⟨N.out.ext0,.inr ⟨T,G,p,k,rfl,rfl,N.out⟩⟩
   · rw [EN.out] at hlt hq;have tk:decide ((a:Int) < (n:Int))=true:=decide_eq_true (by omega);have HT:=Lib.hid ht;have HQ:=Lib.hid hq;have hle:=N.out.le;have hcap:=N.out.cap;simp only at hle;rw [EN.out] at hle;have bt:=N.out.words.bound ht;clear ht hq HW;have wl:IntKind.i64.wrap ((n:Int)-(a:Int))=(n:Int)-(a:Int):=IntWalk.i64_in _ (by omega);go_upto_region 3 with (fail)
     have PR17:=Lib.hid (fun (ww:World) (hSw:Ext wr ww)=>And.intro ((hSw.cell z0 0).trans h0) ((hSw.cell zh 2).trans c2));refine wp_region_seq (S:=fun W=>Ext wr W) (R:=Ext) (by kernel_rfl) Ext.refl ?_ ?_
     · exact exx
     refine' tkL 0 rfl ?h0_215 ?_
     case h0_215=>(intro w q;obtain ⟨h0',c2'⟩:=PR17.out w q;go_simp;try with_reducible rfl)
     refine layy ?_;refine' tkL 1 rfl ?h1_216 ?_
     case h1_216=>(intro w q;obtain ⟨h0',c2'⟩:=PR17.out w q;go_simp;try with_reducible rfl)
     refine layy ?_;refine' tkL 2 rfl ?h2_217 ?_
     case h2_217=>(intro w q;obtain ⟨h0',c2'⟩:=PR17.out w q;go_simp;try with_reducible rfl)
     refine layy ?_;refine' tkL 3 rfl ?h3_218 ?_
     case h3_218=>(intro w q;obtain ⟨h0',c2'⟩:=PR17.out w q;go_simp;try with_reducible rfl)
     refine layy ?_;refine' tkL 4 rfl ?h4_219 ?_
     case h4_219=>(intro w q;obtain ⟨h0',c2'⟩:=PR17.out w q;go_simp;try with_reducible rfl)
     refine layy ?_;refine' tkL 5 rfl ?h5_220 ?_
     case h5_220=>(intro w q;obtain ⟨h0',c2'⟩:=PR17.out w q;go_simp;try with_reducible rfl)
     refine layy ?_;refine' tkL 6 rfl ?h6_221 ?_
     case h6_221=>(intro w q;obtain ⟨h0',c2'⟩:=PR17.out w q;go_simp;try with_reducible rfl)
     refine layy ?_;refine' tkL 7 rfl ?h7_222 ?_
     case h7_222=>(intro w q;obtain ⟨h0',c2'⟩:=PR17.out w q;go_simp;try with_reducible rfl)
     refine layy ?_;refine' tkL 8 rfl ?h8_223 ?_
     case h8_223=>(intro w q;obtain ⟨h0',c2'⟩:=PR17.out w q;go_simp;try with_reducible rfl)
     refine layy ?_;refine' tkL 9 rfl ?h9_224 ?_
     case h9_224=>(intro w q;obtain ⟨h0',c2'⟩:=PR17.out w q;go_simp;try with_reducible rfl)
     refine layy ?_;refine' tkL 10 rfl ?h10_225 ?_
     case h10_225=>(intro w q;obtain ⟨h0',c2'⟩:=PR17.out w q;go_simp;try with_reducible rfl)
     refine layy ?_;refine' tkL 11 rfl ?h11_226 ?_
     case h11_226=>(intro w q;obtain ⟨h0',c2'⟩:=PR17.out w q;go_simp;try with_reducible rfl)
     refine layy ?_;refine' tkL 12 rfl ?h12_227 ?_
     case h12_227=>(intro w q;obtain ⟨h0',c2'⟩:=PR17.out w q;go_simp;try with_reducible rfl)
     refine layy ?_;refine' tkL 13 rfl ?h13_228 ?_
     case h13_228=>(intro w q;obtain ⟨h0',c2'⟩:=PR17.out w q;go_simp;try with_reducible rfl)
     refine layy ?_;refine' tkL 14 rfl ?h14_229 ?_
     case h14_229=>(intro w q;obtain ⟨h0',c2'⟩:=PR17.out w q;go_simp;try with_reducible rfl)
     refine layy ?_;refine' tkR 15 (v:=.int .i64 t) rfl (Or.inr ⟨by rfl,76,_, ?hx15_230, ?hy15_230⟩) ?rest15_230
     case hx15_230=>(intro w hSw;go_simp;try with_reducible rfl)
     case hy15_230=>exact fun w hE=>(tag_any (N.out.ext hE).c2 rfl N.out.le N.out.cap (N.out.ext hE).words HT.out).mono (fun _ _ h=>⟨h.1,h.2,Ext.trans hE h.2⟩)
     refine layy ?_;refine' tkL 16 rfl ?h16_231 ?_
     case h16_231=>(intro w q;obtain ⟨h0',c2'⟩:=PR17.out w q;go_simp;try with_reducible rfl)
     refine layy ?_;refine' tkL 17 rfl ?h17_232 ?_
     case h17_232=>(intro w q;obtain ⟨h0',c2'⟩:=PR17.out w q;go_simp;try with_reducible rfl)
     refine layy ?_;refine wpAnyR_done (by kernel_rfl) ?_ _;intro x1 _ Ex1;have N1:=Lib.hid (N.out.ext Ex1);clear h0 c2 z0 zh tk N Ex1
     rcases HQ.out with ⟨rfl,h3,rfl⟩ | ⟨rfl,h3,v,hv,hq⟩ | ⟨ht0,hor,kk,hkk,hq⟩ | ⟨ht0,hw,he,rfl⟩
     · have t1:decide ((n:Int)-(a:Int) < 3)=true:=decide_eq_true (by omega)
       go_wp2_with fail
       go_returns;exact ⟨N1.out.ext0,.inl ⟨rfl,rfl⟩⟩
     · have bv:=N1.out.words.bound hv;have gv:=N1.out.words.get hv;have lv:=rd_lt hv;rw [EN.out] at lv;have h0:=N1.out.h0;have h1:=N1.out.h1;have f1:=N1.out.fz 1;have c2:=N1.out.c2;simp only at c2;rw [EN.out] at c2;have t1:decide ((n:Int)-(a:Int) < 3)=false:=decide_eq_false (by omega);have N2:=Lib.hid (N1.out.ext (Ext.alloc (Ext.refl x1) (.cells #[.int .i64 (a:Int)] 3)));obtain ⟨bw,hbw⟩:∃ bw,Hp.within 3 ((n:Int)-(a:Int)) v=bw:=⟨_,rfl⟩
       have wi:∀ W:World,Calls Tryz.prog 105 #[.int .i64 3,.int .i64 ((n:Int)-(a:Int)),.int .i64 v] W fun e w'=>e = .returned (.bool bw) ∧ Ext W w':=fun W=>hbw ▸ within_any 3 ((n:Int)-(a:Int)) v W
       have HBW:=Lib.hid hbw;have HQ2:=Lib.hid hq;clear hv hq hbw HQ;go_upto_region 14 with (at_builtin;refine wpList_append_own rfl _ _ rfl (y:=(a:Int)) rfl rfl N2.out.r (by go_simp) (by omega) (by omega) (by omega) ?_;intro g8 c8 x8 row8 hR8 hG8 hrow8 hg8 hl8;have N3:=Lib.hid (N2.out.grow hR8 hG8 hrow8 hg8);clear hR8 hG8 hrow8 hg8;have h03:=N3.out.h0;have h13:=N3.out.h1;have f13:=N3.out.fz 1)
       have N4:=Lib.hid N3.out.stored;simp only [List.length_append,List.length_singleton] at N4;refine LdAt.cut N4.out ?_;clear N4 N3 N2 h03 h13 f13 h0 h1 f1 c2 gv;intro w5 N5';have N5:=Lib.hid N5';clear N5'
       rcases HQ2.out with ⟨hv3,hvn,hrest⟩ | ⟨hno,rfl⟩
       · have hb:bw=true:=by
           rw [← HBW.out];simp only [Hp.within,Bool.and_eq_true,decide_eq_true_eq];omega
         have HRE:=Lib.hid hrest;clear hrest HQ2;subst hb;obtain ⟨vn,rfl⟩:∃ vn:Nat,v=vn:=⟨v.toNat,by omega⟩
         go_wp2_with (go_at_call 105;refine (wi _).mono ?_;rintro e w6 ⟨rfl,E6⟩;have N6:=Lib.hid (N5.out.ext E6))
         go_roundg (m'+1)
         case measure=>omega
         case rel=>exact ⟨a+vn,m',T,G ++ [(a:Int)],some ⟨g8,0,none⟩,c8,Nat.le_refl _,by go_num,by omega,by simp;omega,Lib.hid (by simpa using N6.out),Lib.hid (by simpa using HRE.out)⟩
       · have hb:bw=false:=by
           rw [← HBW.out,Bool.eq_false_iff];intro h;simp only [Hp.within,Bool.and_eq_true,decide_eq_true_eq] at h;omega
         subst hb
         go_wp2_with (go_at_call 105;refine (wi _).mono ?_;rintro e w6 ⟨rfl,E6⟩;have N6:=Lib.hid (N5.out.ext E6))
         go_returns;exact ⟨N6.out.ext0,.inl ⟨rfl,rfl⟩⟩
     · have t0:(t == 0)=false:=by simpa using ht0
       have wk:=wide_le N1.out.toHAt hkk;have HK:=Lib.hid hkk;have HQ2:=Lib.hid hq;have h0:=N1.out.h0;have c0:=N1.out.c0;have c1:=N1.out.c1;have c3:=N1.out.c3;have zl:=N1.out.lt1;have zh:=N1.out.lt;have HOR:=Lib.hid hor;obtain ⟨bn,hbn⟩:∃ bn,Hp.within 1 S.sizes.length t=bn:=⟨_,rfl⟩
       have IN:∀ W:World,Calls Tryz.prog 122 #[.agg #[.slice d.sp S.sizes.length d.sc,.slice d.op S.order.length d.oc],.int .i64 t] W fun e w'=>e = .returned (.bool bn) ∧ Ext W w':=fun W=>hbn ▸ isNode_any d.sp d.op S.sizes.length d.sc S.order.length d.oc t W
       have HE:bn=false → Hp.isEnd t=true:=fun e=>by
        rcases hor with h | h
        · rw [hbn,e] at h
          cases h
        · exact h
       have HEH:=Lib.hid HE;simp only at c0 c1;clear hkk hq hor HQ HE hbn
       cases bn
       case' true=>go_upto_region 12 with (go_at_call 122;refine (IN _).mono ?_;rintro e w6 ⟨rfl,E6⟩;have NX:=Lib.hid (N1.out.ext E6);have EX:=E6)
       case' false=>
        have HE2:=Lib.hid (HEH.out rfl)
        go_upto_region 12 with (first
         | (go_at_call 122;refine (IN _).mono ?_;rintro e w6 ⟨rfl,E6⟩)
         | (go_at_call 78;refine (isEnd_is HE2.out _).mono ?_;rintro e w7 ⟨rfl,E7⟩;have NX:=Lib.hid ((N1.out.ext E6).ext E7);have EX:=E6.trans E7))
       all_goals
        have h0':=NX.out.h0;have c0':=NX.out.c0;have c1':=NX.out.c1;simp only at c0' c1';clear h0 c0 c1 c3 IN;go_upto_region 13 with (go_at_call 123;refine (wide_any NX.out.sizes HK.out (by omega)).mono ?_;rintro e w8 ⟨rfl,E8⟩;have N8:=Lib.hid (NX.out.ext E8);have h08:=N8.out.h0;have c38:=N8.out.c3)
        obtain ⟨w9,hup,hm9,ht9⟩:=N8.out.map.put (t:=102) Tryz.underlying3 Tryz.underlying4 Tryz.underlying102 (by have:=N8.out.taken_len;have:=N8.out.small;unfold maxLen;omega) (a:=a) (by omega);have N9:=Lib.hid (N8.out.mapped ht9 hm9 (fun a' ha'=>by
         rcases (mem_ins a a' T).1 ha' with rfl | h'
         · simp only;rw [EN.out];exact hlt
         · exact N8.out.below a' h'))
        clear hm9 ht9 h0' c0' c1';obtain ⟨bw,hbw⟩:∃ bw,Hp.within 3 ((n:Int)-(a:Int)) kk=bw:=⟨_,rfl⟩
        have wi:∀ W:World,Calls Tryz.prog 105 #[.int .i64 3,.int .i64 ((n:Int)-(a:Int)),.int .i64 kk] W fun e w'=>e = .returned (.bool bw) ∧ Ext W w':=fun W=>hbw ▸ within_any 3 ((n:Int)-(a:Int)) kk W
        have HBW:=Lib.hid hbw;clear hbw
        rcases HQ2.out with ⟨hvn,hrest⟩ | ⟨hno,rfl⟩
        · have hb:bw=true:=by
            rw [← HBW.out];simp only [Hp.within,Bool.and_eq_true,decide_eq_true_eq];omega
          have HRE:=Lib.hid hrest;clear hrest HQ2;subst hb
          go_wp2_with (go_at_call 105;refine (wi _).mono ?_;rintro e w11 ⟨rfl,E11⟩;have N11:=Lib.hid (N9.out.ext E11))
          go_roundg (m'+1)
          case measure=>omega
          case rel=>exact ⟨a+kk,m',Hp.Hs.insert a T,G,p,k,Nat.le_refl _,by go_num,by omega,by omega,N11,HRE⟩
        · have hb:bw=false:=by
            rw [← HBW.out,Bool.eq_false_iff];intro h;simp only [Hp.within,Bool.and_eq_true,decide_eq_true_eq] at h;omega
          subst hb
          go_wp2_with (go_at_call 105;refine (wi _).mono ?_;rintro e w11 ⟨rfl,E11⟩;have N11:=Lib.hid (N9.out.ext E11))
          go_returns;exact ⟨N11.out.ext0,.inl ⟨rfl,rfl⟩⟩
     · have t0:(t == 0)=false:=by simpa using ht0
       have IN:∀ W:World,Calls Tryz.prog 122 #[.agg #[.slice d.sp S.sizes.length d.sc,.slice d.op S.order.length d.oc],.int .i64 t] W fun e w'=>e = .returned (.bool false) ∧ Ext W w':=fun W=>hw ▸ isNode_any d.sp d.op S.sizes.length d.sc S.order.length d.oc t W
       have h0:=N1.out.h0;have c0:=N1.out.c0;have c1:=N1.out.c1;simp only at c0 c1;have HE2:=Lib.hid he;clear hw he
       go_wp2_with (first
        | (go_at_call 122;refine (IN _).mono ?_;rintro e w6 ⟨rfl,E6⟩)
        | (go_at_call 78;refine (isEnd_is HE2.out _).mono ?_;rintro e w7 ⟨rfl,E7⟩;have NX:=Lib.hid ((N1.out.ext E6).ext E7)))
       go_returns;exact ⟨NX.out.ext0,.inl ⟨rfl,rfl⟩⟩
def Hp.rest (W:List Int) (a v:Nat):List Int:=(W.drop (a+3)).take (v-3)
end Go.Proofs.YtdokmmhjmclmnaaGreat
