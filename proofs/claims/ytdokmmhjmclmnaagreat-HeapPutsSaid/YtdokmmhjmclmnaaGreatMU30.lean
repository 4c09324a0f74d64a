/- Part 30 of a proof. -/
import Derived.Test.YtdokmmhjmclmnaaGreatMU29
set_option linter.unusedSimpArgs false
set_option linter.unusedVariables false
set_option linter.unusedSectionVars false
set_option linter.unnecessarySimpa false
set_option maxHeartbeats 16000000
set_option maxRecDepth 100000
namespace Go.Proofs.YtdokmmhjmclmnaaGreat
open Go.Proofs.Tryz
variable {W' w w' w0 wb:World} {B a b bx c ca cap ce cn f g i j k lb m n qc:Nat} {choice e t x:Int} {A W fs ks l o z:List Int} {D T Y:List Nat} {p p2 pa pe pn q:Option Addr} {d:Hd} {S S':Hp.Hs} {r:Rd} {L:List Hp.Tl} {M:List (Nat × Int)} {s:Hp.Sc}
open Go.RowKit Go.Maps
structure J1b {κ:Type} (kt:TypeId) (enc:κ->Value) (ok:κ->Prop):Prop where
 keyed:Maps.Keyed prog kt
 tot:∀ x,ok x -> ∃ kl,keyOf prog kt (enc x)=some kl
 inj:∀ x y,enc x=enc y->x=y
def posL {κ:Type} [BEq κ] [LawfulBEq κ] (E:List κ) (x:κ) (z:DataW Unit):DataW Unit:=match E.idxOf? x with | some i=>.lit (.int .i64 (i:Int)) | none=>z
def IxAt {κ:Type} [BEq κ] [LawfulBEq κ] (kt:TypeId) (enc:κ->Value) (w:World) (g:Nat) (E:List κ):Prop:=
 ∃ D:DataW Unit,w.ownsMap prog kt (plainElem (H:=Unit) prog 3) g E.length D /\ ∀ (x:κ) (kl:Lit),keyOf prog kt (enc x)=some kl->(∀ z,D.atKey kl z=posL E x z)/\Maps.has D kl=(E.idxOf? x).isSome
theorem b0a {κ:Type} [BEq κ] [LawfulBEq κ] {x y:κ}:∀ {E:List κ},x ∉ E->(E ++ [x]).idxOf? y=if y == x then some E.length else E.idxOf? y
 | [],_=>by
  by_cases h:y=x
  . subst h;simp [B1c]
  have h2:(y == x)=false:=by simpa using h
  have h3:(x == y)=false:=by simpa using fun e=>h (Eq.symm e)
  simp [B1c,h2,h3]
 | a :: r,h=>by
  simp only [E6c,not_or] at h;rw [A6c,B1c,B1c,b0a h.2]
  by_cases e:a=y
  . subst e;have h2:(a == x)=false:=by simpa using fun e=>h.1 (Eq.symm e)
    simp [h2]
  have e':(a == y)=false:=by simpa using e
  by_cases e2:y=x
  . subst e2;simp [e']
  have h2:(y == x)=false:=by simpa using e2
  simp [e',h2]
namespace IxAt
variable {κ:Type} [BEq κ] [LawfulBEq κ] {kt t:TypeId} {enc:κ->Value} {ok:κ->Prop} {w w':World} {g:Nat} {E:List κ}
theorem made (w:World):IxAt kt enc (w.alloc (.map #[] 0)) w.heap.size ([]:List κ):=
 ⟨_,y0b w prog kt (plainElem (H:=Unit) prog 3),fun _ _ _=>⟨fun _=>rfl,rfl⟩⟩
theorem lt (h:IxAt kt enc w g E):g < w.heap.size:=by
 obtain ⟨D,h1,_⟩:=h
 exact h1.lt
theorem F9a (h:IxAt kt enc w g E) (e:w'.heap[g]? = w.heap[g]?):IxAt kt enc w' g E:=by
 obtain ⟨D,⟨es,clock,hb,r⟩,h2⟩:=h
 exact ⟨D,⟨es,clock,e.trans hb,r⟩,h2⟩
theorem but (h:IxAt kt enc w g E) {l:List Nat} (k:But l w w') (hg:g ∉ l):IxAt kt enc w' g E:=h.F9a (k.block g h.lt hg)
theorem ext (h:IxAt kt enc w g E) (k:Ext w w'):IxAt kt enc w' g E:=h.F9a (k.block g h.lt)
theorem h4a (h:IxAt kt enc w g E) (K:J1b kt enc ok) (ht:prog.underlying t=some (.map kt 3)) {x:κ} (hx:ok x) :
    (Instr.lookup t (.map (some g)) (enc x) true).run prog w = .ok (.tuple #[.int .i64 (match E.idxOf? x with | some i=>(i:Int) | none=>0),.bool (E.idxOf? x).isSome]) w:=by
  obtain ⟨D,h1,h2⟩:=h;obtain ⟨kl,hk⟩:=K.tot x hx;obtain ⟨v,ps,hrun,hv⟩:=h1.look_ok K.keyed ht (zeroValue3 w) (plainElem_int underlying3 (by decide)) hk;obtain ⟨c,rfl,hc,_⟩:=plainElem_int_inv underlying3 hv;obtain ⟨a1,a2⟩:=h2 x kl hk;rw [hrun,a2];rw [a1] at hc;unfold posL at hc
  cases hi:E.idxOf? x with
  | none=>
   rw [hi] at hc;simp only [F1c,DataW.lit.injEq,Lit.int.injEq,true_and] at hc;rw [<- hc.1]
  | some i=>
   rw [hi] at hc;simp only [F1c,DataW.lit.injEq,Lit.int.injEq,true_and] at hc;rw [<- hc.1]
theorem put (h:IxAt kt enc w g E) (K:J1b kt enc ok) (ht:prog.underlying t=some (.map kt 3)) {x:κ} (hx:ok x) (hn:E.length<=1000000) (hne:x ∉ E) :
    ∃ w',(Instr.mapUpdate t (.map (some g)) (enc x) (.int .i64 (E.length:Int))).run prog w = .ok () w'/\IxAt kt enc w' g (E ++ [x])/\w.mapTurned w' g:=by
  obtain ⟨D,h1,h2⟩:=h;obtain ⟨kl,hk⟩:=K.tot x hx;have wf:(Lit.int .i64 (E.length:Int)).wf=true:=WalkArith.wf_i64 (by omega);obtain ⟨w',hrun,ho,ht'⟩:=h1.store K.keyed ht (by unfold maxLen;omega) hk (plainElem_int underlying3 wf);have hD:IsMap D:=by
   obtain ⟨es,e,_⟩:=h1.canon K.keyed;exact ⟨es,e⟩
  refine ⟨w',hrun,⟨_,by rw [w2b];exact ho,fun y kl' hk'=>?_⟩,ht'⟩;rw [b0a hne];unfold posL;rw [b0a hne]
  by_cases e:y=x
  . subst e;have:kl'=kl:=by rw [hk] at hk';exact (D3c hk').symm
    subst this;rw [H5c (by simp)];exact ⟨fun z=>atKey_put_same hD (K.keyed.key hk) _ _,has_put_same hD (K.keyed.key hk) _⟩
  have hkl:kl' ≠ kl:=fun e2=>e (K.inj _ _ (K.keyed.inj hk' (e2 ▸ hk)))
  rw [H4c (by simpa using e),has_put_other hkl];exact ⟨fun z=>by rw [atKey_put_other hkl];exact (h2 y kl' hk').1 z,(h2 y kl' hk').2⟩
end IxAt
open Go.RowKit Go.Maps
theorem nkeyKT:prog.keyTypeAt 3 204=true:=by kernel_rfl
theorem nkeyTI:prog.tiled 3 204=true:=by kernel_rfl
theorem p1b:WideMaps.KeyLaw prog 204:=deep_law (m:=3) p3a nkeyKT nkeyTI (by rw [underlying204])
theorem d5a:prog.cellsOf 204=13:=by kernel_rfl
theorem u4a:prog.keyType 204=true:=by kernel_rfl
theorem P8b (hl:l.length=13) (h:∀ x ∈ l,-9223372036854775808<=x/\x<=9223372036854775807):∃ k,keyOf prog 204 (.agg (ints l).toArray)=some k:=by
 match l,hl with
 | [a0,a1,a2,a3,a4,a5,a6,a7,a8,a9,a10,a11,a12],_=>
  obtain ⟨d,hd⟩:∃ d,prog.types.size=d+2:=⟨prog.types.size-2,by have:=q1a;omega⟩
  have e:∀ x ∈ [a0,a1,a2,a3,a4,a5,a6,a7,a8,a9,a10,a11,a12],∀ d,prog.keyLits (d+1) 3 [.int .i64 x]=some [.int .i64 x]:=fun x hx d=>keyLits_int d (h x hx)
  have arr:∃ k,prog.keyLits (d+2) 150 [.int .i64 a1,.int .i64 a2,.int .i64 a3,.int .i64 a4,.int .i64 a5,.int .i64 a6,.int .i64 a7,.int .i64 a8,.int .i64 a9,.int .i64 a10,.int .i64 a11,.int .i64 a12]=some k:=by
   unfold Program.keyLits;rw [underlying150];simp only [R5a,O0a];simp [List.range,List.range.loop,e a1 (by simp),e a2 (by simp),e a3 (by simp),e a4 (by simp),e a5 (by simp),e a6 (by simp),e a7 (by simp),e a8 (by simp),e a9 (by simp),e a10 (by simp),e a11 (by simp),e a12 (by simp)]
  obtain ⟨k,hk⟩:=arr;have top:∃ k,prog.keyLits (d+3) 204 [.int .i64 a0,.int .i64 a1,.int .i64 a2,.int .i64 a3,.int .i64 a4,.int .i64 a5,.int .i64 a6,.int .i64 a7,.int .i64 a8,.int .i64 a9,.int .i64 a10,.int .i64 a11,.int .i64 a12]=some k:=by
   unfold Program.keyLits;rw [underlying204];simp only [d5a];simp [R5a,O0a,e a0 (by simp),hk]
  obtain ⟨k',hk'⟩:=top;unfold keyOf;rw [underlying204];simp only;have hf:(Value.agg (ints [a0,a1,a2,a3,a4,a5,a6,a7,a8,a9,a10,a11,a12]).toArray).formed prog 204=true:=by
   simp [Value.formed,underlying204,d5a,ints]
  rw [u4a,hf,hd];simp only [Bool.and_self,H2c];rw [show (Value.agg (ints [a0,a1,a2,a3,a4,a5,a6,a7,a8,a9,a10,a11,a12]).toArray).cells.toList=[.int .i64 a0,.int .i64 a1,.int .i64 a2,.int .i64 a3,.int .i64 a4,.int .i64 a5,.int .i64 a6,.int .i64 a7,.int .i64 a8,.int .i64 a9,.int .i64 a10,.int .i64 a11,.int .i64 a12] from rfl,hk'];exact ⟨_,rfl⟩
def encN (l:List Int):Value:=.agg (ints l).toArray
def okN (l:List Int):Prop:=l.length=13 /\ ∀ x ∈ l,-9223372036854775808<=x/\x<=9223372036854775807
theorem keyN:J1b 204 encN okN:=⟨Maps.Keyed.of_law p1b,fun _ hx=>P8b hx.1 hx.2,fun _ _ e=>p4a (List.toArray_inj (Value.agg.inj e))⟩
theorem valKT:prog.keyTypeAt 3 43=true:=by kernel_rfl
theorem valTI:prog.tiled 3 43=true:=by kernel_rfl
theorem valLaw:WideMaps.KeyLaw prog 43:=deep_law (m:=3) p3a valKT valTI (by rw [underlying43])
theorem i4a:prog.cellsOf 43=2:=by kernel_rfl
theorem N4b:prog.cellsOf 5=1:=by kernel_rfl
theorem A9b:prog.keyType 43=true:=by kernel_rfl
def encV (v:Int × Int):Value:=.agg #[.int .u8 v.1,.int .i64 v.2]
def okV (v:Int × Int):Prop:=(0<=v.1/\v.1<=255) /\ -9223372036854775808<=v.2/\v.2<=9223372036854775807
theorem J6b (d:Nat) (h:0<=x/\x<=255):prog.keyLits (d+1) 5 [.int .u8 x]=some [.int .u8 x]:=by
 unfold Program.keyLits
 rw [underlying5]
 have wf:(Lit.int .u8 x).wf=true:=WalkArith.wf_u8 (by omega)
 simp [wf]
theorem S0b {v:Int × Int} (h:okV v):∃ k,keyOf prog 43 (encV v)=some k:=by
 obtain ⟨f,n⟩:=v
 obtain ⟨h1,h2⟩:=h
 obtain ⟨d,hd⟩:∃ d,prog.types.size=d+2:=⟨prog.types.size-2,by have:=q1a;omega⟩
 have top:∃ k,prog.keyLits (d+3) 43 [.int .u8 f,.int .i64 n]=some k:=by
  unfold Program.keyLits;rw [underlying43];simp only [i4a];simp [N4b,O0a,J6b _ h1,keyLits_int _ h2]
 obtain ⟨k',hk'⟩:=top
 unfold keyOf
 rw [underlying43]
 simp only
 have hf:(encV (f,n)).formed prog 43=true:=by
  simp [encV,Value.formed,underlying43,i4a]
 rw [A9b,hf,hd]
 simp only [Bool.and_self,H2c]
 rw [show (encV (f,n)).cells.toList=[.int .u8 f,.int .i64 n] from rfl,hk']
 exact ⟨_,rfl⟩
theorem keyV:J1b 43 encV okV:=⟨Maps.Keyed.of_law valLaw,fun _ hx=>S0b hx,fun x y e=>by
 obtain ⟨a,b⟩:=x
 obtain ⟨c,d⟩:=y
 have:=Value.agg.inj e
 simp at this
 rw [this.1,this.2]⟩
def keyQ (q:Int × List Int):List Int:=q.1 :: (q.2 ++ List.replicate (12-q.2.length) 0)
theorem o5b {q:Int × List Int} (h1:q.2.length<=12) (h2 : -9223372036854775808<=q.1/\q.1<=9223372036854775807) (h3:∀ x ∈ q.2,-9223372036854775808<=x/\x<=9223372036854775807):okN (keyQ q):=by
 refine ⟨by simp [keyQ];omega,fun x hx=>?_⟩
 unfold keyQ at hx
 rcases E6c.1 hx with rfl | hx
 . exact h2
 rcases C4c.1 hx with hx | hx
 . exact h3 x hx
 rw [r4b hx];omega
theorem b7b {q r:Int × List Int} (h:q.1=r.1->q.2.length=r.2.length) (e:keyQ q=keyQ r):q=r:=by
 unfold keyQ at e
 injection e with e1 e2
 obtain ⟨a,l⟩:=q
 obtain ⟨b,m⟩:=r
 simp only at e1 e2 h
 subst e1
 rw [(List.append_inj e2 (h rfl)).1]
theorem k6a {α β:Type} [BEq α] [LawfulBEq α] [BEq β] [LawfulBEq β] {f:α->β} {x:α}:∀ {E:List α},(∀ y ∈ E,f y=f x->y=x)->(E.map f).idxOf? (f x)=E.idxOf? x
 | [],_=>rfl
 | a :: r,h=>by
  rw [E7c,B1c,B1c,k6a (fun y hy=>h y (by simp [hy]))]
  by_cases e:a=x
  . subst e;simp
  have e2:¬ f a=f x:=fun e2=>e (h a (by simp) e2)
  simp [e,e2]
structure Mkr where
 gm:Nat
 ge:Nat
 gn:Nat
 v0:Value
 v1:Value
 v2:Value
 v3:Value
 v6:Value
structure N0a (w:World) (i:Mkr) (pe:Option Addr) (ne ce:Nat) (pn:Option Addr) (nn cn:Nat):Prop where
 c0:w.cell? ⟨i.gm,0,none⟩=some i.v0
 c1:w.cell? ⟨i.gm,1,none⟩=some i.v1
 c2:w.cell? ⟨i.gm,2,none⟩=some i.v2
 c3:w.cell? ⟨i.gm,3,none⟩=some i.v3
 c4:w.cell? ⟨i.gm,4,none⟩=some (.slice pe ne ce)
 c5:w.cell? ⟨i.gm,5,none⟩=some (.slice pn nn cn)
 c6:w.cell? ⟨i.gm,6,none⟩=some i.v6
 c7:w.cell? ⟨i.gm,7,none⟩=some (.map (some i.ge))
 c8:w.cell? ⟨i.gm,8,none⟩=some (.map (some i.gn))
 z:∀ o,w.frozen? ⟨i.gm,o,none⟩=false
namespace N0a
variable {w w':World} {i:Mkr} {pe pn p:Option Addr} {ne ce nn cn n c:Nat}
theorem but (h:N0a w i pe ne ce pn nn cn) {l:List Nat} (k:But l w w') (hg:i.gm ∉ l):N0a w' i pe ne ce pn nn cn:=by
 have z:=cell_lt h.c0
 exact ⟨(k.cell z hg 0).trans h.c0,(k.cell z hg 1).trans h.c1,(k.cell z hg 2).trans h.c2,(k.cell z hg 3).trans h.c3,(k.cell z hg 4).trans h.c4,(k.cell z hg 5).trans h.c5,(k.cell z hg 6).trans h.c6,(k.cell z hg 7).trans h.c7,(k.cell z hg 8).trans h.c8,fun o=>(k.frozen z hg o).trans (h.z o)⟩
theorem set4 (h:N0a w i pe ne ce pn nn cn):N0a (w.setCell ⟨i.gm,4,none⟩ (.slice p n c)) i p n c pn nn cn:=by
 obtain ⟨a0,a1,a2,a3,a4,a5,a6,a7,a8,z⟩:=h
 exact ⟨by simp [go_sem,a0],by simp [go_sem,a1],by simp [go_sem,a2],by simp [go_sem,a3],by simp [go_sem,a4],by simp [go_sem,a5],by simp [go_sem,a6],by simp [go_sem,a7],by simp [go_sem,a8],fun o=>by simp [go_sem,z]⟩
theorem set5 (h:N0a w i pe ne ce pn nn cn):N0a (w.setCell ⟨i.gm,5,none⟩ (.slice p n c)) i pe ne ce p n c:=by
 obtain ⟨a0,a1,a2,a3,a4,a5,a6,a7,a8,z⟩:=h
 exact ⟨by simp [go_sem,a0],by simp [go_sem,a1],by simp [go_sem,a2],by simp [go_sem,a3],by simp [go_sem,a4],by simp [go_sem,a5],by simp [go_sem,a6],by simp [go_sem,a7],by simp [go_sem,a8],fun o=>by simp [go_sem,z]⟩
theorem set6 (h:N0a w i pe ne ce pn nn cn) (v:Value):N0a (w.setCell ⟨i.gm,6,none⟩ v) { i with v6:=v } pe ne ce pn nn cn:=by
 obtain ⟨a0,a1,a2,a3,a4,a5,a6,a7,a8,z⟩:=h
 exact ⟨by simp [go_sem,a0],by simp [go_sem,a1],by simp [go_sem,a2],by simp [go_sem,a3],by simp [go_sem,a4],by simp [go_sem,a5],by simp [go_sem,a6],by simp [go_sem,a7],by simp [go_sem,a8],fun o=>by simp [go_sem,z]⟩
end N0a
structure E4b (w:World) (ge:Nat) (E:List (Int × Int)) (pe:Option Addr) (ce:Nat):Prop where
 em:IxAt 43 encV w ge E
 er:RowN w 2 43 pe ce (E.map endC)
theorem E4b.but {ge:Nat} {E:List (Int × Int)} (h:E4b w ge E pe ce) {l:List Nat} (k:But l w w') (h1:ge ∉ l) (h2:∀ b ∈ blk pe,b ∉ l):E4b w' ge E pe ce:=
 ⟨h.em.but k h1,h.er.but k fun b o e=>h2 b (C2a e)⟩
structure r6a (w:World) (gn:Nat) (N:List (Int × List Int)) (pn:Option Addr) (cn:Nat) (K:List (Nat × Nat)):Prop where
 nm:IxAt 204 encN w gn (N.map keyQ)
 nr:RowN w 2 41 pn cn (List.zipWith (fun q k=>S4a q (some ⟨k.1,0,none⟩,k.2)) N K)
 kl:K.length=N.length
 ks:∀ (j:Nat) (q:Int × List Int) (k:Nat × Nat),N[j]? = some q->K[j]? = some k->SliceAt w (some ⟨k.1,0,none⟩) k.2 q.2
theorem r6a.but {gn:Nat} {N:List (Int × List Int)} {K:List (Nat × Nat)} (h:r6a w gn N pn cn K) {l:List Nat} (k:But l w w') (h1:gn ∉ l) (h2:∀ b ∈ blk pn,b ∉ l) (h3:∀ b ∈ K.map Prod.fst,b ∉ l):r6a w' gn N pn cn K:=
 ⟨h.nm.but k h1,h.nr.but k fun b o e=>h2 b (C2a e),h.kl,fun j q kk hq hk=>(h.ks j q kk hq hk).but k fun b o e=>by
  cases e
  exact h3 _ (F7c.2 ⟨kk,u1b hk,rfl⟩)⟩
def Mkr.dyn (i:Mkr) (pe pn:Option Addr):List Nat:=i.gm :: i.ge :: i.gn :: (blk pe ++ blk pn)
structure MkSt (wb w:World) (i:Mkr) (E:List (Int × Int)) (N:List (Int × List Int)) (pe:Option Addr) (ce:Nat) (pn:Option Addr) (cn:Nat) (K:List (Nat × Nat)):Prop where
 ext:Ext wb w
 c:N0a w i pe E.length ce pn N.length cn
 e:E4b w i.ge E pe ce
 n:r6a w i.gn N pn cn K
 lo:∀ b,b ∈ i.dyn pe pn \/ b ∈ K.map Prod.fst->wb.heap.size<=b/\b < w.heap.size
 nd:i.gm ≠ i.ge/\i.gm ≠ i.gn/\i.ge ≠ i.gn
 ndp:∀ b ∈ blk pe,b ≠ i.gm/\b ≠ i.ge/\b ≠ i.gn/\b ∉ blk pn/\b ∉ K.map Prod.fst
 ndn:∀ b ∈ blk pn,b ≠ i.gm/\b ≠ i.ge/\b ≠ i.gn/\b ∉ K.map Prod.fst
 ndk:∀ b ∈ K.map Prod.fst,b ≠ i.gm/\b ≠ i.ge/\b ≠ i.gn
namespace MkSt
variable {wb w w':World} {i:Mkr} {E:List (Int × Int)} {N:List (Int × List Int)} {pe pn:Option Addr} {ce cn:Nat} {K:List (Nat × Nat)}
theorem in_m (i:Mkr) (pe pn:Option Addr):i.gm ∈ i.dyn pe pn:=by simp [Mkr.dyn]
theorem in_e (i:Mkr) (pe pn:Option Addr):i.ge ∈ i.dyn pe pn:=by simp [Mkr.dyn]
theorem in_n (i:Mkr) (pe pn:Option Addr):i.gn ∈ i.dyn pe pn:=by simp [Mkr.dyn]
theorem l1a (i:Mkr) (pe pn:Option Addr) (h:b ∈ blk pe):b ∈ i.dyn pe pn:=by simp [Mkr.dyn,h]
theorem l0a (i:Mkr) (pe pn:Option Addr) (h:b ∈ blk pn):b ∈ i.dyn pe pn:=by simp [Mkr.dyn,h]
theorem far (h:MkSt wb w i E N pe ce pn cn K) {l:List Nat} (k:But l w w') (hw:∀ b ∈ l,wb.heap.size<=b) (hl:∀ b ∈ l,b ∉ i.dyn pe pn/\b ∉ K.map Prod.fst):MkSt wb w' i E N pe ce pn cn K:=by
 have f2:∀ b ∈ i.dyn pe pn,b ∉ l:=fun b hb hm=>(hl b hm).1 hb
 have f3:∀ b ∈ K.map Prod.fst,b ∉ l:=fun b hb hm=>(hl b hm).2 hb
 exact
  { h with
    ext:=k.D3a h.ext hw
    c:=h.c.but k (f2 _ (in_m _ _ _))
    e:=h.e.but k (f2 _ (in_e _ _ _)) fun b hb=>f2 _ (l1a _ _ _ hb)
    n:=h.n.but k (f2 _ (in_n _ _ _)) (fun b hb=>f2 _ (l0a _ _ _ hb)) f3
    lo:=fun b hb=>⟨(h.lo b hb).1,x4b (h.lo b hb).2 k.size⟩ }
theorem ext' (h:MkSt wb w i E N pe ce pn cn K) (k:Ext w w'):MkSt wb w' i E N pe ce pn cn K:=h.far (l:=[]) (But.E7a k) (by simp) (by simp)
theorem end_ (h:MkSt wb w i E N pe ce pn cn K) {w1 w2:World} {row:Option Nat} {v:Int × Int} (h1:But [i.ge] w w1) (hm:IxAt 43 encV w1 i.ge (E ++ [v])) (hR:RowN w2 2 43 (some ⟨g,0,none⟩) cap (E.map endC ++ [endC v])) (hG:w1.grownBy w2 row) (hrow:∀ r,row=some r->pe=some ⟨r,0,none⟩) (hg:pe=some ⟨g,0,none⟩ \/ g=w1.heap.size) (hlt:g < w2.heap.size) :
    MkSt wb (w2.setCell ⟨i.gm,4,none⟩ (.slice (some ⟨g,0,none⟩) (E.length+1) cap)) i (E ++ [v]) N (some ⟨g,0,none⟩) cap pn cn K/\But (i.gm :: i.ge :: blk pe) w (w2.setCell ⟨i.gm,4,none⟩ (.slice (some ⟨g,0,none⟩) (E.length+1) cap))/\(g ∈ blk pe \/ w.heap.size<=g):=by
  have k2:But (blk pe) w1 w2:=⟨hG.os,hG.tape,hG.output,hG.size,fun j hj hn=>hG.block j hj fun e=>hn (by rw [hrow j e.symm];simp [blk])⟩
  have k12:But (i.ge :: blk pe) w w2:=(h1.mono (l':=i.ge :: blk pe) (by simp)).trans (k2.mono (l':=i.ge :: blk pe) (fun x hx=>by simp [hx]));have k3:But [i.gm] w2 (w2.setCell ⟨i.gm,4,none⟩ (.slice (some ⟨g,0,none⟩) (E.length+1) cap)):=(But.refl _ _).setCell (.inl (by simp)) _;have kb:But (i.gm :: i.ge :: blk pe) w (w2.setCell ⟨i.gm,4,none⟩ (.slice (some ⟨g,0,none⟩) (E.length+1) cap)):=(k12.mono (l':=i.gm :: i.ge :: blk pe) (fun x hx=>by simp only [E6c] at hx ⊢;exact .inr hx)).trans (k3.mono (l':=i.gm :: i.ge :: blk pe) (fun x hx=>by rw [w8b.1 hx];simp));have s1:=h1.size;have hgi:g ∈ blk pe \/ w.heap.size<=g:=hg.imp (fun e=>by rw [e];simp [blk]) (fun e=>by omega);refine ⟨?_,kb,hgi⟩;have gm:=h.lo i.gm (.inl (in_m _ _ _));have ge:=h.lo i.ge (.inl (in_e _ _ _));have gn:=h.lo i.gn (.inl (in_n _ _ _));have sz:w2.heap.size=(w2.setCell ⟨i.gm,4,none⟩ (.slice (some ⟨g,0,none⟩) (E.length+1) cap)).heap.size:=by simp [World.setCell]
  have s2:=k12.size;have gnew:∀ b,b < w.heap.size->b ∉ blk pe->b ≠ g:=fun b hb hn e=>by
   subst e
   rcases hgi with hg | hg
   . exact hn hg
   omega
  have gblk:∀ b ∈ blk (some (⟨g,0,none⟩:Addr)),b=g:=fun b hb=>by simpa [blk] using hb
  have gmpe:i.gm ∉ blk pe:=fun hm=>(h.ndp _ hm).1 rfl
  have gepe:i.ge ∉ blk pe:=fun hm=>(h.ndp _ hm).2.1 rfl
  have gnpe:i.gn ∉ blk pe:=fun hm=>(h.ndp _ hm).2.2.1 rfl
  exact
   { ext:=kb.D3a h.ext fun b hb=>by
       rcases E6c.1 hb with rfl | hb
       . exact gm.1
       rcases E6c.1 hb with rfl | hb
       . exact ge.1
       exact (h.lo b (.inl (l1a _ _ _ hb))).1
     c:=by
      rw [w2b];exact (h.c.but k12 (by simp only [E6c,not_or];exact ⟨h.nd.1,gmpe⟩)).set4
     e:=by
      refine ⟨(hm.but k2 gepe).but k3 (by simpa using h.nd.1.symm), ?_⟩;rw [C5c];exact hR.but k3 fun b o e hm=>by
       cases e
       exact gnew _ gm.2 gmpe (w8b.1 hm).symm
     n:=h.n.but kb (by simp only [E6c,not_or];exact ⟨h.nd.2.1.symm,h.nd.2.2.symm,gnpe⟩) (fun b hb=>by simp only [E6c,not_or];exact ⟨(h.ndn b hb).1,(h.ndn b hb).2.1,fun hm=>(h.ndp b hm).2.2.2.1 hb⟩) (fun b hb=>by simp only [E6c,not_or];exact ⟨(h.ndk b hb).1,(h.ndk b hb).2.1,fun hm=>(h.ndp b hm).2.2.2.2 hb⟩)
     lo:=fun b hb=>by
      rw [<- sz];have old:b ∈ i.dyn pe pn \/ b ∈ K.map Prod.fst->wb.heap.size<=b/\b < w2.heap.size:=fun hb=>⟨(h.lo b hb).1,x4b (h.lo b hb).2 s2⟩
      rcases hb with hb | hb
      . simp only [Mkr.dyn,E6c,C4c] at hb
        rcases hb with hb | hb | hb | hb | hb
        . exact old (.inl (by rw [hb];exact in_m _ _ _))
        . exact old (.inl (by rw [hb];exact in_e _ _ _))
        . exact old (.inl (by rw [hb];exact in_n _ _ _))
        . have:=gblk b hb;subst this
          rcases hgi with hg | hg
          . exact ⟨(h.lo _ (.inl (l1a _ _ _ hg))).1,hlt⟩
          exact ⟨by have:=h.ext.le;omega,hlt⟩
        exact old (.inl (l0a _ _ _ hb))
      exact old (.inr hb)
     nd:=h.nd
     ndp:=fun b hb=>by
      have:=gblk b hb;subst this;exact ⟨fun e=>gnew _ gm.2 gmpe e.symm,fun e=>gnew _ ge.2 gepe e.symm,fun e=>gnew _ gn.2 gnpe e.symm,fun hm=>gnew b (h.lo b (.inl (l0a _ _ _ hm))).2 (fun hx=>(h.ndp b hx).2.2.2.1 hm) rfl,fun hm=>gnew b (h.lo b (.inr hm)).2 (fun hx=>(h.ndp b hx).2.2.2.2 hm) rfl⟩
     ndn:=h.ndn
     ndk:=h.ndk }
theorem node_ (h:MkSt wb w i E N pe ce pn cn K) {w1 w2:World} {g0 c0:Nat} {row:Option Nat} {q:Int × List Int} (h1:But [i.gn] w w1) (hm:IxAt 204 encN w1 i.gn (N.map keyQ ++ [keyQ q])) (hR:RowN w2 2 41 (some ⟨g,0,none⟩) cap (List.zipWith (fun q k=>S4a q (some ⟨k.1,0,none⟩,k.2)) N K ++ [S4a q (some ⟨g0,0,none⟩,c0)])) (hG:w1.grownBy w2 row) (hrow:∀ r,row=some r->pn=some ⟨r,0,none⟩) (hg:pn=some ⟨g,0,none⟩ \/ g=w1.heap.size) (hlt:g < w2.heap.size)
    (hs:SliceAt w (some ⟨g0,0,none⟩) c0 q.2) (h0:wb.heap.size<=g0/\g0 < w.heap.size) (h2:g0 ∉ i.dyn pe pn) :
    MkSt wb (w2.setCell ⟨i.gm,5,none⟩ (.slice (some ⟨g,0,none⟩) (N.length+1) cap)) i E (N ++ [q]) pe ce (some ⟨g,0,none⟩) cap (K ++ [(g0,c0)])/\But (i.gm :: i.gn :: blk pn) w (w2.setCell ⟨i.gm,5,none⟩ (.slice (some ⟨g,0,none⟩) (N.length+1) cap))/\(g ∈ blk pn \/ w.heap.size<=g):=by
  have k2:But (blk pn) w1 w2:=⟨hG.os,hG.tape,hG.output,hG.size,fun j hj hn=>hG.block j hj fun e=>hn (by rw [hrow j e.symm];simp [blk])⟩
  have k12:But (i.gn :: blk pn) w w2:=(h1.mono (l':=i.gn :: blk pn) (by simp)).trans (k2.mono (l':=i.gn :: blk pn) (fun x hx=>by simp [hx]));have k3:But [i.gm] w2 (w2.setCell ⟨i.gm,5,none⟩ (.slice (some ⟨g,0,none⟩) (N.length+1) cap)):=(But.refl _ _).setCell (.inl (by simp)) _;have kb:But (i.gm :: i.gn :: blk pn) w (w2.setCell ⟨i.gm,5,none⟩ (.slice (some ⟨g,0,none⟩) (N.length+1) cap)):=(k12.mono (l':=i.gm :: i.gn :: blk pn) (fun x hx=>by simp only [E6c] at hx ⊢;exact .inr hx)).trans (k3.mono (l':=i.gm :: i.gn :: blk pn) (fun x hx=>by rw [w8b.1 hx];simp));have s1:=h1.size;have hgi:g ∈ blk pn \/ w.heap.size<=g:=hg.imp (fun e=>by rw [e];simp [blk]) (fun e=>by omega);refine ⟨?_,kb,hgi⟩;have gm:=h.lo i.gm (.inl (in_m _ _ _));have ge:=h.lo i.ge (.inl (in_e _ _ _));have gn:=h.lo i.gn (.inl (in_n _ _ _));have sz:w2.heap.size=(w2.setCell ⟨i.gm,5,none⟩ (.slice (some ⟨g,0,none⟩) (N.length+1) cap)).heap.size:=by simp [World.setCell]
  have s2:=k12.size;have gnew:∀ b,b < w.heap.size->b ∉ blk pn->b ≠ g:=fun b hb hn e=>by
   subst e
   rcases hgi with hg | hg
   . exact hn hg
   omega
  have gblk:∀ b ∈ blk (some (⟨g,0,none⟩:Addr)),b=g:=fun b hb=>by simpa [blk] using hb
  have gmpn:i.gm ∉ blk pn:=fun hm=>(h.ndn _ hm).1 rfl
  have gepn:i.ge ∉ blk pn:=fun hm=>(h.ndn _ hm).2.1 rfl
  have gnpn:i.gn ∉ blk pn:=fun hm=>(h.ndn _ hm).2.2.1 rfl
  have g0d:g0 ≠ i.gm/\g0 ≠ i.ge/\g0 ≠ i.gn/\g0 ∉ blk pe/\g0 ∉ blk pn:=by
   simpa only [Mkr.dyn,E6c,C4c,not_or] using h2
  have inK:∀ b ∈ (K ++ [(g0,c0)]).map Prod.fst,b=g0 \/ b ∈ K.map Prod.fst:=fun b hb=>by
   rw [C5c] at hb
   rcases C4c.1 hb with hb | hb
   . exact .inr hb
   exact .inl (by simpa using hb)
  have gne:g ≠ g0:=fun e=>gnew g0 h0.2 g0d.2.2.2.2 e.symm
  exact
   { ext:=kb.D3a h.ext fun b hb=>by
       rcases E6c.1 hb with rfl | hb
       . exact gm.1
       rcases E6c.1 hb with rfl | hb
       . exact gn.1
       exact (h.lo b (.inl (l0a _ _ _ hb))).1
     c:=by
      rw [w2b];exact (h.c.but k12 (by simp only [E6c,not_or];exact ⟨h.nd.2.1,gmpn⟩)).set5
     e:=h.e.but kb (by simp only [E6c,not_or];exact ⟨h.nd.1.symm,h.nd.2.2,gepn⟩) (fun b hb=>by simp only [E6c,not_or];exact ⟨(h.ndp b hb).1,(h.ndp b hb).2.2.1,(h.ndp b hb).2.2.2.1⟩)
     n:=by
      refine ⟨?_, ?_,by simp [h.n.kl],fun j q' kk hq hk=>?_⟩
      . rw [C5c];exact (hm.but k2 gnpn).but k3 (by simpa using h.nd.2.1.symm)
      . rw [show List.zipWith (fun (q:Int × List Int) (k:Nat × Nat)=>S4a q (some ⟨k.1,0,none⟩,k.2)) (N ++ [q]) (K ++ [(g0,c0)])=List.zipWith (fun q k=>S4a q (some ⟨k.1,0,none⟩,k.2)) N K ++ [S4a q (some ⟨g0,0,none⟩,c0)] by rw [List.zipWith_append h.n.kl.symm];rfl];exact hR.but k3 fun b o e hm=>by
         cases e
         exact gnew _ gm.2 gmpn (w8b.1 hm).symm
      by_cases hj:j < N.length
      . rw [q6b hj] at hq;rw [q6b (by rw [h.n.kl];exact hj)] at hk;refine (h.n.ks j q' kk hq hk).but kb fun b o e=>?_
        cases e
        have hb:kk.1 ∈ K.map Prod.fst:=F7c.2 ⟨kk,u1b hk,rfl⟩;simp only [E6c,not_or];exact ⟨(h.ndk _ hb).1,(h.ndk _ hb).2.2,fun hm=>(h.ndn _ hm).2.2.2 hb⟩
      have ej:j=N.length:=by
       have:=(q5b.1 hq).1;simp at this;omega
      subst ej;rw [q0b (H0c _),G1c] at hq;rw [q0b (by rw [h.n.kl];exact H0c _),h.n.kl,G1c] at hk
      cases hq
      cases hk
      refine hs.but kb fun b o e=>?_
      cases e
      simp only [E6c,not_or];exact ⟨g0d.1,g0d.2.2.1,g0d.2.2.2.2⟩
     lo:=fun b hb=>by
      rw [<- sz];have old:b ∈ i.dyn pe pn \/ b ∈ K.map Prod.fst->wb.heap.size<=b/\b < w2.heap.size:=fun hb=>⟨(h.lo b hb).1,x4b (h.lo b hb).2 s2⟩
      rcases hb with hb | hb
      . simp only [Mkr.dyn,E6c,C4c] at hb
        rcases hb with hb | hb | hb | hb | hb
        . exact old (.inl (by rw [hb];exact in_m _ _ _))
        . exact old (.inl (by rw [hb];exact in_e _ _ _))
        . exact old (.inl (by rw [hb];exact in_n _ _ _))
        . exact old (.inl (l1a _ _ _ hb))
        have:=gblk b hb;subst this
        rcases hgi with hg | hg
        . exact ⟨(h.lo _ (.inl (l0a _ _ _ hg))).1,hlt⟩
        exact ⟨by have:=h.ext.le;omega,hlt⟩
      rcases inK b hb with rfl | hb
      . exact ⟨h0.1,by omega⟩
      exact old (.inr hb)
     nd:=h.nd
     ndp:=fun b hb=>⟨(h.ndp b hb).1,(h.ndp b hb).2.1,(h.ndp b hb).2.2.1,fun hm=>gnew b (h.lo b (.inl (l1a _ _ _ hb))).2 (h.ndp b hb).2.2.2.1 (gblk b hm),fun hm=>by
      rcases inK b hm with rfl | hm
      . exact g0d.2.2.2.1 hb
      . exact (h.ndp b hb).2.2.2.2 hm⟩
     ndn:=fun b hb=>by
      have:=gblk b hb;subst this;exact ⟨fun e=>gnew _ gm.2 gmpn e.symm,fun e=>gnew _ ge.2 gepn e.symm,fun e=>gnew _ gn.2 gnpn e.symm,fun hm=>by
       rcases inK b hm with e | hm
       . exact gne e
       . exact gnew b (h.lo b (.inr hm)).2 (fun hx=>(h.ndn b hx).2.2.2 hm) rfl⟩
     ndk:=fun b hb=>by
      rcases inK b hb with rfl | hb
      . exact ⟨g0d.1,g0d.2.1,g0d.2.2.1⟩
      . exact h.ndk b hb }
end MkSt
open Go.RowKit Go.Maps
theorem Q6a {ops:Array Oper} {Q:Exit->Act->World->Prop} {o:Oper} {K:Act->World->Prop} {a:Act} {w:World} (s x:Operand) (T t:TypeId) (hi:ops[i]? = some o)
    (ho:o.op = .call { callee:=.builtin .append,args:=#[s,x],argTypes:=#[T,T] }) (hw:Region.wanted o (yielded ops a.tmps)=true) {z:Value} {n bytes:Nat} (hT:prog.underlying T=some (.slice t)) (hinfo:(prog.info? t).map (fun i=>(i.zero,i.size,i.bytes))=some (some z,n,bytes)) (hzn:z.cells.size=n) (hn0:0 < n) (hby:bytes<=1000)
    {c b m:Nat} {p:Option Addr} {X:List (List Value)} {y:List Value} (hm:X.length=m) (hs:a.eval s = .slice p m c) (hx:a.eval x = .slice (some ⟨b,0,none⟩) 1 1)
    (hrow:RowN w n t p c X) (hyl:y.length=n) (hy:∀ i v,y[i]? = some v->w.cell? ⟨b,i,none⟩=some v) (hone:∀ v ∈ y,v.oneCell'=true) (hlen:m < 10000000)
    (h:∀ g cap w' row,RowN w' n t (some ⟨g,0,none⟩) cap (X ++ [y])->w.grownBy w' row->(∀ r,row=some r->p=some ⟨r,0,none⟩)->(p=some ⟨g,0,none⟩ \/ g=w.heap.size)->g < w'.heap.size->K (a.put o.dst (.slice (some ⟨g,0,none⟩) (m+1) cap)) w'):wpOp prog ops Q i K a w:=by
  subst hm;unfold wpOp;simp only [hi];rw [H5c hw];refine .inl ?_;obtain ⟨i0,hi0,hz0,hz1,hz2⟩:=info_parts hinfo;refine wp_append_lies w s x T ho 0 t i0 z n bytes hT hi0 hz0 hz1 hz2 hzn hn0 _ _ _ hs hrow.own ⟨b,0,none⟩ 1 1 y hx (by rw [hyl,Nat.one_mul]) (fun j u hj=>?_) hone (by omega) (by unfold maxLen;omega) (G5c (Nat.mul_le_mul (show X.length+1<=10000000 by omega) hby) (by decide)) (G9c _) _ rfl ?_
  . rw [G8c]
    simpa using hy j u hj
  intro g cap w' hown hgrow hor hlt;have own:=hrow.o9b;refine h g cap w' _ ⟨by simpa using hown,fun u hu=>?_⟩ hgrow own (hor.imp (own g) id) hlt
  rcases C4c.1 hu with hu | hu
  . exact hrow.len u hu
  rw [w8b.1 hu];exact hyl
theorem nEnd2 (k:Int) (h1:0<=k) (h2:k<=1000000000) :
    Calls prog 198 #[.int .i64 k] w (Rt w (.int .i64 (-1-k))):=by
  have s1:IntKind.i64.wrap (-1-k) = -1-k:=E4c _ (by omega);clear h1 h2;go_enter func198,ntmps198
  go_wp2_with fail
  go_returns;exact ⟨rfl,exx⟩
def w7a (wb w:World) (i:Mkr) (l:List Nat) (x:Int) (E:List (Int × Int)) (N:List (Int × List Int)) (K:List (Nat × Nat)) (e:Ending) (w':World):Prop:=
 e = .returned (.int .i64 x) /\ ∃ (pe:Option Addr) (ce:Nat) (pn:Option Addr) (cn:Nat),MkSt wb w' i E N pe ce pn cn K/\But l w w'/\(∀ b ∈ i.dyn pe pn,b ∈ l \/ w.heap.size<=b)
theorem S7b {i:Mkr} {E:List (Int × Int)} {N:List (Int × List Int)} {K:List (Nat × Nat)} (h:MkSt wb w i E N pe ce pn cn K) {v:Int × Int} (hv:okV v) (hj:E.idxOf? v=some j) (hjl:j<=1000000) :
    Calls prog 197 #[.pointer (some ⟨i.gm,0,none⟩),.agg #[.int .u8 v.1,.int .i64 v.2]] w (w7a wb w i (i.dyn pe pn) (-1-(j:Int)) E N K):=by
  have H:=hZ h;have LK:=hZ (fun W (hE:Ext w W)=>by have:=(h.e.em.ext hE).h4a keyV (t:=189) underlying189 hv;rw [hj] at this;exact this);have c7:=h.c.c7;have z7:=cell_lt c7;have NE:=hZ (fun W=>nEnd2 (w:=W) (j:Int) (by omega) (by omega));clear h hj;unfold encV at LK;obtain ⟨f,n⟩:=v;simp only at *;go_enter func197,ntmps197;go_upto_region 1 with fail
  refine B0a (F:=fun W=>Hid (Ext w W)/\W.cell? ⟨w.heap.size,0,none⟩=some (.int .u8 f)/\W.cell? ⟨w.heap.size,1,none⟩=some (.int .i64 n)) ⟨hZ (exx),by go_simp,by go_simp⟩ ?_;intro w0 ⟨E0,v0,v1⟩;generalize w.heap.size=gv at v0 v1 ⊢;have zv:=cell_lt v0;have m7:=E0.out.q c7;have zm:=cell_lt m7;have mixed:prog.follows .mixedOrders=true:=by kernel_rfl
  have pr50a:=Ext.r m7;have pr50b:=Ext.r v0;have pr50c:=Ext.r v1
  have pr50d:=fun u_ (h_:Ext w0 u_)=>LK.out _ (E0.out.trans h_)
  refine rg0 w0 ?_
  refine' tkd 0 ?_;refine' tkd 2 ?_;refine' tkd 4 ?_;refine' tkd 6 ?_;refine' tkd 8 ?_;refine' tkL 10 ?_;refine A0a (by kernel_rfl) ?_ _;intro x1 _ Ex1;clear pr50a pr50b pr50c pr50d
  go_wp2_with (go_at_call 198;refine m4_ (NE.out _) fun w1 hb1 hc1 hf1 hs1=>?_)
  go_returns;have EX:=E0.out.trans (Ex1.trans hb1);exact ⟨rfl,pe,ce,pn,cn,H.out.ext' EX,But.E7a EX,fun b hb=>.inl hb⟩
theorem Y3b {i:Mkr} {E:List (Int × Int)} {N:List (Int × List Int)} {K:List (Nat × Nat)} (h:MkSt wb w i E N pe ce pn cn K) {v:Int × Int} (hv:okV v) (hj:E.idxOf? v=none) (hjl:E.length<=100000) :
    Calls prog 197 #[.pointer (some ⟨i.gm,0,none⟩),.agg #[.int .u8 v.1,.int .i64 v.2]] w (w7a wb w i (i.dyn pe pn) (-1-(E.length:Int)) (E ++ [v]) N K):=by
  have H:=hZ h;have LK:=hZ (fun W (hE:Ext w W)=>by have:=(h.e.em.ext hE).h4a keyV (t:=189) underlying189 hv;rw [hj] at this;exact this);have PU:=hZ (fun W (hE:Ext w W)=>(h.e.em.ext hE).put keyV (t:=189) underlying189 hv (by omega) (r9b.1 hj));have c7:=h.c.c7;have z7:=cell_lt c7;have c4:=h.c.c4;obtain ⟨ne,hne⟩:∃ ne,E.length=ne:=⟨_,rfl⟩
  have HNE:=hZ hne;rw [hne] at PU c4 hjl ⊢;have NE:=hZ (fun W=>nEnd2 (w:=W) (ne:Int) (by omega) (by omega));clear h hj hne;unfold encV at LK PU;obtain ⟨f,n⟩:=v;simp only [Option.isSome_none] at LK PU;simp only at *;go_enter func197,ntmps197;go_upto_region 1 with fail
  refine B0a (F:=fun W=>Hid (Ext w W)/\W.cell? ⟨w.heap.size,0,none⟩=some (.int .u8 f)/\W.cell? ⟨w.heap.size,1,none⟩=some (.int .i64 n)) ⟨hZ (exx),by go_simp,by go_simp⟩ ?_;intro w0 ⟨E0,v0,v1⟩;have GV:=hZ (show w.heap.size<=w.heap.size from H0c _);generalize hgv:w.heap.size=gv at v0 v1 GV ⊢;have HGV:=hZ hgv;clear hgv;have zv:=cell_lt v0;have m7:=E0.out.q c7;have m4:=E0.out.q c4;have zm:=cell_lt m7;have mixed:prog.follows .mixedOrders=true:=by kernel_rfl
  have pr51a:=Ext.r m7;have pr51b:=Ext.r v0;have pr51c:=Ext.r v1
  have pr51d:=fun u_ (h_:Ext w0 u_)=>LK.out _ (E0.out.trans h_)
  refine rg0 w0 ?_
  refine' tkd 0 ?_;refine' tkd 2 ?_;refine' tkd 4 ?_;refine' tkd 6 ?_;refine' tkd 8 ?_;refine' tkL 10 ?_;refine A0a (by kernel_rfl) ?_ _;intro x1 _ Ex1;clear pr51a pr51b pr51c pr51d;have E1:=hZ (E0.out.trans Ex1);have v01:=Ex1.q v0;have v11:=Ex1.q v1;have m71:=Ex1.q m7;have m41:=Ex1.q m4;have zv1:=cell_lt v01;have zm1:=cell_lt m71;clear v0 v1 m7 m4 zv zm c7 c4 Ex1 E0;go_upto_region 4 with fail
  refine wp_region_any (by kernel_rfl) ?_;have pr52a:=Ext.r m71
  have pr52b:=Ext.r v01;have pr52c:=Ext.r v11
  refine B3a (S:=fun W=>Ext x1 W) (R:=Ext) 6 6 Ext.refl ?_ ?_ (by rfl)
  . exact Ext.drew exx
  refine' tkY 0 ?_;refine' tkY 1 ?_;refine' tkY 2 ?_;refine' tkY 3 ?_;refine' tkY 4 ?_;refine' tkY 5 ?_;refine A9a (by kernel_rfl) ?_;intro x2 _ Ex2;clear pr52a pr52b pr52c;simp only [v0b,D9c];have E2:=hZ (E1.out.trans Ex2);have v02:=Ex2.q v01;have v12:=Ex2.q v11;have m72:=Ex2.q m71;have m42:=Ex2.q m41;obtain ⟨w3,hup,hm3,ht3⟩:=PU.out x2 E2.out;have N2:=hZ (H.out.ext' E2.out);have B3:But [i.ge] x2 w3:=(But.refl _ _).turned ht3 (.inl (by simp));have gvx:gv ∉ [i.ge]:=fun hm=>by have:=(H.out.lo i.ge (.inl (MkSt.in_e _ _ _))).2;rw [HGV.out] at this;rw [w8b.1 hm] at this;omega
  have gmx:i.gm ∉ [i.ge]:=by simpa using H.out.nd.1
  have v03:=(B3.cell (cell_lt v02) gvx 0).trans v02;have v13:=(B3.cell (cell_lt v02) gvx 1).trans v12;have m43:=(B3.cell (cell_lt m72) gmx 4).trans m42;have m73:=(B3.cell (cell_lt m72) gmx 7).trans m72;have ER:=hZ (N2.out.e.er.but B3 (fun b o e hm=>(N2.out.ndp b (C2a e)).2.1 (w8b.1 hm)));have fz4:=(B3.frozen (cell_lt m72) gmx 4).trans (N2.out.c.z 4);have HB3:=hZ B3;have HM3:=hZ hm3;clear v01 v11 m71 m41 zv1 zm1 v02 v12 m72 m42 Ex2 ht3 gvx gmx B3 hm3;go_upto_region 5 with fail
  clear hup;refine wp_region_any (by kernel_rfl) ?_;refine B3a (S:=(fun W:World=>W.cell? ⟨gv,0,none⟩=some (.int .u8 f)/\W.cell? ⟨gv,1,none⟩=some (.int .i64 n)/\W.cell? ⟨i.gm,4,none⟩=some (.slice pe ne ce))) (R:=Eq) 12 12 (fun _=>rfl) (by exact ⟨v03,v13,m43⟩) ?_ (by rfl);refine' tkF 0 ?_;refine' tkF 1 ?_;refine' tkF 2 ?_;refine' tkF 3 ?_;refine' tkF 4 ?_;refine' tkF 5 ?_ (hy:=by intro w hSw;(obtain ⟨q1,q2,q3⟩:=hSw);go_simp;try with_reducible rfl);refine' tkF 6 ?_ (hy:=by intro w hSw;(obtain ⟨q1,q2,q3⟩:=hSw);go_simp;try with_reducible rfl);have W3:=hZ (show Ext w3 (World.drew w3) from Ext.drew (Ext.refl w3));change E0a _ _ _ _ _ _ _ _ _ _ _ (World.drew w3);have vd0:=W3.out.q v03;have vd1:=W3.out.q v13;have md4:=W3.out.q m43;generalize World.drew w3=wd at W3 vd0 vd1 md4 ⊢;refine H6a [7] (by kernel_rfl) (by simp) (by simp) ?_;intro i7 hi7;obtain rfl:i7=7:=by simpa using hi7
  have A4:Ext wd (wd.alloc (.cells #[.int .u8 f,.int .i64 n] 43)):=Ext.alloc (Ext.refl wd) _;have va0:=A4.q vd0;have va1:=A4.q vd1;have ma4:=A4.q md4;have e0:(wd.alloc (.cells #[.int .u8 f,.int .i64 n] 43)).cell? ⟨wd.heap.size,0,none⟩=some (.int .u8 f):=by go_simp
  have e1:(wd.alloc (.cells #[.int .u8 f,.int .i64 n] 43)).cell? ⟨wd.heap.size,1,none⟩=some (.int .i64 n):=by go_simp
  refine c4a (i:=7) (v:=.slice (some ⟨wd.heap.size,0,none⟩) 1 1) (w'':=wd.alloc (.cells #[.int .u8 f,.int .i64 n] 43)) rfl (by rfl) (by go_simp) ⟨⟨va0,va1,ma4⟩, ?_⟩;refine layy ?_;have W4:=hZ (W3.out.trans A4);clear v03 v13 m43 m73 vd0 vd1 md4 A4;generalize wd.heap.size=gt at e0 e1 ⊢;generalize wd.alloc (.cells #[.int .u8 f,.int .i64 n] 43)=w4 at *;refine H6a [8] (by kernel_rfl) (by simp) (by simp) ?_;intro i8 hi8;obtain rfl:i8=8:=by simpa using hi8
  refine Q6a (i:=8) (.tmp 35) (.tmp 37) 46 43 rfl rfl (by rfl) (z:=.agg #[.int .u8 0,.int .i64 0]) (n:=2) (bytes:=16) underlying46 (by kernel_rfl) rfl (by decide) (by decide) (m:=ne) (by rw [C6c,HNE.out]) rfl rfl (ER.out.ext W4.out) (y:=endC (f,n)) rfl (cells2 e0 e1) (by simp [endC,Value.oneCell']) (by omega) ?_;intro g cap w5 row hR hG hrow hg hlt;have ge4:i.gm ∉ blk pe:=fun hm=>(N2.out.ndp _ hm).1 rfl
  have k5:But (blk pe) w4 w5:=⟨hG.os,hG.tape,hG.output,hG.size,fun j hj hn=>hG.block j hj fun e=>hn (by rw [hrow j e.symm];simp [blk])⟩
  have gve:gv ∉ blk pe:=fun hm=>by have:=(H.out.lo _ (.inl (MkSt.l1a _ _ _ hm))).2;rw [HGV.out] at this;omega
  have v05:=(k5.cell (cell_lt va0) gve 0).trans va0;have v15:=(k5.cell (cell_lt va0) gve 1).trans va1;have m45:=(k5.cell (cell_lt ma4) ge4 4).trans ma4;have fz5:=(k5.frozen (cell_lt ma4) ge4 4).trans ((W4.out.frozen (by have:=HB3.out.size;have:=(N2.out.lo i.gm (.inl (MkSt.in_m _ _ _))).2;omega) 4).trans fz4);have NB:=hZ (N2.out.end_ (v:=(f,n)) (HB3.out.trans (But.E7a W4.out)) (HM3.out.ext W4.out) hR hG hrow hg hlt);rw [HNE.out] at NB;refine ⟨⟨v05,v15,m45⟩, ?_⟩;refine layy ?_;clear hR hG hrow hg hlt k5 va0 va1 ma4 e0 e1 ge4 gve
  skip
  refine' tkF 9 ?_;refine' tkF 10 ?_;refine' tkF 11 ?_;refine A9a (by kernel_rfl) ?_;intro w9 e9 _;subst e9;simp only [v0b,D9c]
  go_wp2_with (go_at_call 198;refine m4_ (NE.out _) fun w9 hb9 hc9 hf9 hs9=>?_)
  go_returns;obtain ⟨N6,B6,GI⟩:=NB.out;refine ⟨rfl,_,_,_,_,N6.ext' hb9, ?_, ?_⟩
  . have b1:But (i.dyn pe pn) w x2:=But.E7a E2.out;exact (b1.trans (B6.mono (l':=i.dyn pe pn) (fun x hx=>by
     rcases E6c.1 hx with rfl | hx
     . exact MkSt.in_m _ _ _
     . rcases E6c.1 hx with rfl | hx
       . exact MkSt.in_e _ _ _
       . exact MkSt.l1a _ _ _ hx))).trans (But.E7a hb9)
  intro b hb;have l2:=E2.out.le;simp only [Mkr.dyn,blk,E6c,C4c,A9c,or_false] at hb
  rcases hb with hb | hb | hb | hb | hb
  . exact .inl (by rw [hb];exact MkSt.in_m _ _ _)
  . exact .inl (by rw [hb];exact MkSt.in_e _ _ _)
  . exact .inl (by rw [hb];exact MkSt.in_n _ _ _)
  . rw [hb]
    rcases GI with h | h
    . exact .inl (MkSt.l1a _ _ _ h)
    exact .inr (by omega)
  exact .inl (MkSt.l0a _ _ _ hb)
theorem k4b {gb m:Nat} (hb:w.cell? ⟨gb,0,none⟩=some (.slice p ks.length c)) (hs:SliceAt w p c ks) (h0:0 < ks.length) (x:Int) :
    Calls prog 216 #[.int .i64 x,.pointer (some ⟨gb,0,none⟩)] w (Rt w (.bool (x == ks.headD 0))):=by
  obtain ⟨b,o,rfl,hb',hc⟩:=hs.cells h0;obtain ⟨k0,hk⟩:=A4a (l:=ks) (j:=0) h0;have g0:=hc 0 k0 hk;have e:ks.headD 0=k0:=by
   cases ks with
   | nil=>simp at h0
   | cons a r=>simpa [Hp.rd] using hk
  rw [e];have hle:=hs.le;have hcap:=hs.cap;have tp:decide ((0:Int) < (ks.length:Int))=true:=dT;clear e hk hc hs;generalize ks.length=n at *;rw [G0c] at g0;go_enter func216,ntmps216
  go_wp2_with fail
  go_returns;exact ⟨rfl,exx⟩
theorem o8b {g0 c0:Nat} (hs:SliceAt w (some ⟨g0,0,none⟩) c0 ks) (h0:0 < ks.length) {b:Bool} (hf:Nd.flat ks=b) (t:TypeId) (W:World) (hE:Ext (w.alloc (.cells #[.slice (some ⟨g0,0,none⟩) ks.length c0] t)) W) :
    Calls prog 189 #[.slice (some ⟨g0,0,none⟩) ks.length c0,.func (.func 216) #[] #[.pointer (some ⟨w.heap.size,0,none⟩)]] W fun e w'=>e = .returned (.bool b)/\Ext W w':=by
  have c1:(w.alloc (.cells #[.slice (some ⟨g0,0,none⟩) ks.length c0] t)).cell? ⟨w.heap.size,0,none⟩=some (.slice (some ⟨g0,0,none⟩) ks.length c0):=by go_simp
  have EE:Ext w (w.alloc (.cells #[.slice (some ⟨g0,0,none⟩) ks.length c0] t)):=Ext.alloc (Ext.refl w) _;refine nAll (is:=fun k=>k == ks.headD 0) (first:=#[]) (enters_of func216 (by kernel_rfl) rfl) (hs.ext (EE.trans hE)) (fun j x _ _ W' hW=>?_) hf;exact k4b (m:=0) ((hW.cell (x4b (cell_lt c1) hE.le) 0).trans (hE.q c1)) (hs.ext ((EE.trans hE).trans hW)) h0 x
theorem C6b {gm g0 c0:Nat} {c:Int} (hs:SliceAt w (some ⟨g0,0,none⟩) c0 ks) (h0:0 < ks.length) (hf:Nd.flat ks=true) :
    Calls prog 199 #[.pointer (some ⟨gm,0,none⟩),.int .i64 c,.slice (some ⟨g0,0,none⟩) ks.length c0] w (Rt w (.int .i64 (ks.headD 0))):=by
  have AL:=hZ (fun t W hE=>o8b hs h0 hf t W hE);obtain ⟨b,o,e0,hb',hc⟩:=hs.cells h0
  cases e0
  obtain ⟨k0,hk⟩:=A4a (l:=ks) (j:=0) h0;have q0:=hc 0 k0 hk;have e:ks.headD 0=k0:=by
   cases ks with
   | nil=>simp at h0
   | cons a r=>simpa [Hp.rd] using hk
  rw [e];have hle:=hs.le;have hcap:=hs.cap;have tp:decide ((0:Int) < (ks.length:Int))=true:=dT;have zq:=cell_lt q0;clear e hk hc hs hf;generalize ks.length=n at *;rw [G0c] at q0;go_enter func199,ntmps199
  go_wp2_with (go_at_call 189;refine m4_ (AL.out _ _ (exx)) fun w1 hb1 hc1 hf1 hs1=>?_;obtain ⟨hz1_0,hc1_0,hf1_0⟩:=c3_ hb1 w.heap.size)
  go_returns;exact ⟨rfl,exx⟩
theorem o2a {cb gs os cp:Nat} (hg:w.heap[cb]? = some (.cells (ints (t :: List.replicate 12 0)).toArray 204 (0,0))) (hs:SliceAt w (some ⟨gs,os,none⟩) cp fs) (h0:0 < fs.length) (h12:fs.length<=12) :
    ∃ x,(∀ ty,(Builtin.copy_ #[22,22] ty #[.slice (some ⟨cb,1,none⟩) 12 12,.slice (some ⟨gs,os,none⟩) fs.length cp]).run prog w = .ok (goInt (fs.length:Nat)) x)/\x.heap[cb]? = some (.cells (ints (t :: (fs ++ List.replicate (12-fs.length) 0))).toArray 204 (0,0))/\But [cb] w x:=by
  obtain ⟨b,o,e,hb,hc⟩:=hs.cells h0
  cases e
  refine ⟨w.setRow cb (ints (t :: (fs ++ List.replicate (12-fs.length) 0))).toArray,fun ty=>?_,setRow_heap w cb _ _ _ _ hg,(But.refl _ _).setRow (.inl (by simp)) _⟩;have hm:Nat.min fs.length 12=fs.length:=D1c h12;have:=Q7a (P:=prog) w 22 22 ty 3 1 cb 1 12 12 ⟨gs,os,none⟩ fs.length cp _ 204 (ints fs) underlying22 (by kernel_rfl) hg (by rw [hm];simp [ints]) (fun j v hj=>by
   rw [G8c];obtain ⟨hj1,hj2⟩:=q5b.1 hj;have hj3:j < fs.length:=by simpa [ints] using hj1
   rw [hc j fs[j] (r1b hj3),<- hj2];simp [ints]) (by simp [ints];omega) (fun v hv=>by
   obtain ⟨x,_,rfl⟩:=F7c.1 hv;rfl)
  have e:((ints (t :: List.replicate 12 0)).toArray.toList.take 1 ++ ints fs ++ (ints (t :: List.replicate 12 0)).toArray.toList.drop (1+(ints fs).length))=ints (t :: (fs ++ List.replicate (12-fs.length) 0)):=by
   rw [v5b,i1a,Nat.add_comm 1];show [Value.int .i64 t] ++ ints fs ++ List.drop fs.length (ints (List.replicate 12 0))=Value.int .i64 t :: ints (fs ++ List.replicate (12-fs.length) 0);unfold ints;rw [C5c,w9b,w9b,List.drop_replicate,y1b];rfl
  rw [hm,e] at this;exact this
theorem L7b {i:Mkr} {E:List (Int × Int)} {N:List (Int × List Int)} {g0 c0:Nat} {K:List (Nat × Nat)} {c:Int} (h:MkSt wb w i E N pe ce pn cn K) (hs:SliceAt w (some ⟨g0,0,none⟩) c0 ks) (h0:wb.heap.size<=g0/\g0 < w.heap.size) (h2:g0 ∉ i.dyn pe pn) (hf:Nd.flat ks=false) (hl0:0 < ks.length) (hl1:ks.length<=12)
    (hq:okN (keyQ (c,ks))) (hinj:∀ y ∈ N,keyQ y=keyQ (c,ks)->y=(c,ks)) (hj:N.idxOf? (c,ks)=some j) (hjl:j<=1000000) :
    Calls prog 199 #[.pointer (some ⟨i.gm,0,none⟩),.int .i64 c,.slice (some ⟨g0,0,none⟩) ks.length c0] w (w7a wb w i (i.dyn pe pn) (j:Int) E N K):=by
  have HS:=hZ hs;have AL:=hZ (fun t W hE=>o8b hs hl0 hf t W hE);have H:=hZ h;have LK:=hZ (fun W (hE:Ext w W)=>by have:=(h.n.nm.ext hE).h4a keyN (t:=190) underlying190 hq;rw [k6a hinj,hj] at this;exact this);have c8:=h.c.c8;have c5:=h.c.c5;have z8:=cell_lt c8;have hk13:=hq.1;have HK2:=hZ (show keyQ (c,ks)=c :: (ks ++ List.replicate (12-ks.length) 0) from rfl);have H0:=hZ h0;have H2:=hZ h2;have hml:0 < ks.length/\ks.length<=12:=⟨hl0,hl1⟩
  clear h hs hf hinj hj hq h0 h2;obtain ⟨a0,a1,a2,a3,a4,a5,a6,a7,a8,a9,a10,a11,a12,hkl⟩:=w4a hk13;rw [hkl] at LK HK2 ;unfold encN at LK ;simp only [ints,E7c,F9c] at LK ;clear hkl hk13;go_enter func199,ntmps199;go_upto_region 4 with (go_at_call 189;refine m4_ (AL.out _ _ (exx)) fun w1 hb1 hc1 hf1 hs1=>?_;obtain ⟨hz1_0,hc1_0,hf1_0⟩:=c3_ hb1 w.heap.size)
  clear AL;have E10:Ext w (w1.alloc (.cells #[.int .i64 c,.int .i64 0,.int .i64 0,.int .i64 0,.int .i64 0,.int .i64 0,.int .i64 0,.int .i64 0,.int .i64 0,.int .i64 0,.int .i64 0,.int .i64 0,.int .i64 0] 204)):=exx;have hg10:(w1.alloc (.cells #[.int .i64 c,.int .i64 0,.int .i64 0,.int .i64 0,.int .i64 0,.int .i64 0,.int .i64 0,.int .i64 0,.int .i64 0,.int .i64 0,.int .i64 0,.int .i64 0,.int .i64 0] 204)).heap[w1.heap.size]? = some (.cells (ints (c :: List.replicate 12 0)).toArray 204 (0,0)):=by
   have:=u6b w1 (.cells #[.int .i64 c,.int .i64 0,.int .i64 0,.int .i64 0,.int .i64 0,.int .i64 0,.int .i64 0,.int .i64 0,.int .i64 0,.int .i64 0,.int .i64 0,.int .i64 0,.int .i64 0] 204)
   simpa [ints] using this
  have y10:(w1.alloc (.cells #[.int .i64 c,.int .i64 0,.int .i64 0,.int .i64 0,.int .i64 0,.int .i64 0,.int .i64 0,.int .i64 0,.int .i64 0,.int .i64 0,.int .i64 0,.int .i64 0,.int .i64 0] 204)).cell? ⟨w.heap.size,0,none⟩=some (.slice (some ⟨g0,0,none⟩) ks.length c0):=by
   have k:Ext w1 (w1.alloc (.cells #[.int .i64 c,.int .i64 0,.int .i64 0,.int .i64 0,.int .i64 0,.int .i64 0,.int .i64 0,.int .i64 0,.int .i64 0,.int .i64 0,.int .i64 0,.int .i64 0,.int .i64 0] 204)):=Ext.alloc (Ext.refl _) _;have y9:w1.cell? ⟨w.heap.size,0,none⟩=some (.slice (some ⟨g0,0,none⟩) ks.length c0):=(hc1_0 0).trans (by go_simp);exact k.q y9
  have zcb:w.heap.size < w1.heap.size:=by have:=hb1.le;simp at this;omega
  have GY:=hZ (show w.heap.size<=w.heap.size from H0c _);clear hb1 hc1 hf1 hs1 hz1_0 hc1_0 hf1_0;generalize w1.heap.size=cb at *;generalize w1.alloc (.cells #[.int .i64 c,.int .i64 0,.int .i64 0,.int .i64 0,.int .i64 0,.int .i64 0,.int .i64 0,.int .i64 0,.int .i64 0,.int .i64 0,.int .i64 0,.int .i64 0,.int .i64 0] 204)=wt at *;have mixed:prog.follows .mixedOrders=true:=by kernel_rfl
  have zy:=cell_lt y10;have EE10:=hZ E10;refine wp_region_any (by kernel_rfl) ?_;have pr53a:=Ext.r y10
  refine B3a (S:=fun W=>Ext wt W) (R:=Ext) 3 3 Ext.refl ?_ ?_ (by rfl)
  . exact Ext.drew exx
  refine' tkY 0 ?_;refine' tkY 1 ?_;refine' tkY 2 ?_;refine A9a (by kernel_rfl) ?_;intro x1 _ Ex1;clear pr53a;simp only [v0b,D9c];have hg11:x1.heap[cb]? = some (.cells (ints (c :: List.replicate 12 0)).toArray 204 (0,0)):=(Ex1.block _ (q4b.1 hg10).1).trans hg10;obtain ⟨x2,hcp,hg12,hb12⟩:=o2a hg11 (HS.out.ext (EE10.out.trans Ex1)) hml.1 hml.2;rw [<- HK2.out] at hg12;simp only [ints,E7c,F9c] at hg12;have QC:∀ (j:Nat) (v:Value),(#[.int .i64 a0,.int .i64 a1,.int .i64 a2,.int .i64 a3,.int .i64 a4,.int .i64 a5,.int .i64 a6,.int .i64 a7,.int .i64 a8,.int .i64 a9,.int .i64 a10,.int .i64 a11,.int .i64 a12]:Array Value)[j]? = some v->x2.cell? ⟨cb,j,none⟩=some v:=fun j v hv=>by simp only [World.cell?,hg12];exact hv
  have q0:=QC 0 _ rfl;have q1:=QC 1 _ rfl;have q2:=QC 2 _ rfl;have q3:=QC 3 _ rfl;have q4:=QC 4 _ rfl;have q5:=QC 5 _ rfl;have q6:=QC 6 _ rfl;have q7:=QC 7 _ rfl;have q8:=QC 8 _ rfl;have q9:=QC 9 _ rfl;have q10:=QC 10 _ rfl;have q11:=QC 11 _ rfl;have q12:=QC 12 _ rfl;have E2:=hZ (But.D3a EE10.out (But.trans (But.E7a (l:=[cb]) Ex1) hb12) (by simp;omega));have y12:=(hb12.cell (cell_lt (Ex1.q y10)) (by simp;omega) 0).trans (Ex1.q y10);have m82:=E2.out.q c8;have m52:=E2.out.q c5;clear hg10 y10 zy E10 EE10 hg11 hb12 Ex1 QC hg12 c8 c5 z8;go_upto_region 5 with fail
  clear hcp;have zk2:=cell_lt q0;have zy2:=cell_lt y12;have zm2:=cell_lt m82;have pr54a:=Ext.r m82
  have pr54b:=Ext.r q0;have pr54c:=Ext.r q1;have pr54d:=Ext.r q2;have pr54e:=Ext.r q3;have pr54f:=Ext.r q4;have pr54g:=Ext.r q5;have pr54h:=Ext.r q6;have pr54i:=Ext.r q7;have pr54j:=Ext.r q8;have pr54k:=Ext.r q9;have pr54l:=Ext.r q10;have pr54m:=Ext.r q11;have pr54n:=Ext.r q12
  have pr54o:=fun u_ (h_:Ext x2 u_)=>LK.out _ (E2.out.trans h_)
  refine rg0 x2 ?_
  refine' tkd 0 ?_;refine' tkd 2 ?_;refine' tkd 4 ?_;refine' tkd 6 ?_;refine' tkd 8 ?_;refine' tkL 10 ?_;refine A0a (by kernel_rfl) ?_ _;intro x3 _ Ex3;clear pr54a pr54b pr54c pr54d pr54e pr54f pr54g pr54h pr54i pr54j pr54k pr54l pr54m pr54n pr54o;have E3:=hZ (E2.out.trans Ex3)
  go_wp2_with fail
  go_returns;exact ⟨rfl,pe,ce,pn,cn,H.out.ext' E3.out,But.E7a E3.out,fun b hb=>.inl hb⟩
theorem P3b {i:Mkr} {E:List (Int × Int)} {N:List (Int × List Int)} {g0 c0:Nat} {K:List (Nat × Nat)} {c:Int} (h:MkSt wb w i E N pe ce pn cn K) (hs:SliceAt w (some ⟨g0,0,none⟩) c0 ks) (h0:wb.heap.size<=g0/\g0 < w.heap.size) (h2:g0 ∉ i.dyn pe pn) (hf:Nd.flat ks=false) (hl0:0 < ks.length) (hl1:ks.length<=12)
    (hq:okN (keyQ (c,ks))) (hinj:∀ y ∈ N,keyQ y=keyQ (c,ks)->y=(c,ks)) (hj:N.idxOf? (c,ks)=none) (hjl:N.length<=100000) :
    Calls prog 199 #[.pointer (some ⟨i.gm,0,none⟩),.int .i64 c,.slice (some ⟨g0,0,none⟩) ks.length c0] w (w7a wb w i (i.dyn pe pn) (N.length:Int) E (N ++ [(c,ks)]) (K ++ [(g0,c0)])):=by
  have HS:=hZ hs;have AL:=hZ (fun t W hE=>o8b hs hl0 hf t W hE);have H:=hZ h;have LK:=hZ (fun W (hE:Ext w W)=>by have:=(h.n.nm.ext hE).h4a keyN (t:=190) underlying190 hq;rw [k6a hinj,hj] at this;exact this);have PU:=hZ (fun W (hE:Ext w W)=>(h.n.nm.ext hE).put keyN (t:=190) underlying190 hq (by rw [C6c];omega) (fun hm=>by
   obtain ⟨y,hy,e⟩:=F7c.1 hm;exact r9b.1 hj (hinj y hy e ▸ hy)))
  have c8:=h.c.c8;have c5:=h.c.c5;have z8:=cell_lt c8;have hk13:=hq.1;have HK2:=hZ (show keyQ (c,ks)=c :: (ks ++ List.replicate (12-ks.length) 0) from rfl);obtain ⟨nn,hnn⟩:∃ nn,N.length=nn:=⟨_,rfl⟩
  have HNN:=hZ hnn;rw [C6c,hnn] at PU;rw [hnn] at c5 hjl ⊢;clear hnn;have H0:=hZ h0;have H2:=hZ h2;have hml:0 < ks.length/\ks.length<=12:=⟨hl0,hl1⟩
  clear h hs hf hinj hj hq h0 h2;obtain ⟨a0,a1,a2,a3,a4,a5,a6,a7,a8,a9,a10,a11,a12,hkl⟩:=w4a hk13;rw [hkl] at LK HK2 PU;unfold encN at LK PU;simp only [ints,E7c,F9c] at LK PU;have HK2x:=hZ hkl;clear hkl hk13;go_enter func199,ntmps199;go_upto_region 4 with (go_at_call 189;refine m4_ (AL.out _ _ (exx)) fun w1 hb1 hc1 hf1 hs1=>?_;obtain ⟨hz1_0,hc1_0,hf1_0⟩:=c3_ hb1 w.heap.size)
  clear AL;have E10:Ext w (w1.alloc (.cells #[.int .i64 c,.int .i64 0,.int .i64 0,.int .i64 0,.int .i64 0,.int .i64 0,.int .i64 0,.int .i64 0,.int .i64 0,.int .i64 0,.int .i64 0,.int .i64 0,.int .i64 0] 204)):=exx;have hg10:(w1.alloc (.cells #[.int .i64 c,.int .i64 0,.int .i64 0,.int .i64 0,.int .i64 0,.int .i64 0,.int .i64 0,.int .i64 0,.int .i64 0,.int .i64 0,.int .i64 0,.int .i64 0,.int .i64 0] 204)).heap[w1.heap.size]? = some (.cells (ints (c :: List.replicate 12 0)).toArray 204 (0,0)):=by
   have:=u6b w1 (.cells #[.int .i64 c,.int .i64 0,.int .i64 0,.int .i64 0,.int .i64 0,.int .i64 0,.int .i64 0,.int .i64 0,.int .i64 0,.int .i64 0,.int .i64 0,.int .i64 0,.int .i64 0] 204)
   simpa [ints] using this
  have y10:(w1.alloc (.cells #[.int .i64 c,.int .i64 0,.int .i64 0,.int .i64 0,.int .i64 0,.int .i64 0,.int .i64 0,.int .i64 0,.int .i64 0,.int .i64 0,.int .i64 0,.int .i64 0,.int .i64 0] 204)).cell? ⟨w.heap.size,0,none⟩=some (.slice (some ⟨g0,0,none⟩) ks.length c0):=by
   have k:Ext w1 (w1.alloc (.cells #[.int .i64 c,.int .i64 0,.int .i64 0,.int .i64 0,.int .i64 0,.int .i64 0,.int .i64 0,.int .i64 0,.int .i64 0,.int .i64 0,.int .i64 0,.int .i64 0,.int .i64 0] 204)):=Ext.alloc (Ext.refl _) _;have y9:w1.cell? ⟨w.heap.size,0,none⟩=some (.slice (some ⟨g0,0,none⟩) ks.length c0):=(hc1_0 0).trans (by go_simp);exact k.q y9
  have zcb:w.heap.size < w1.heap.size:=by have:=hb1.le;simp at this;omega
  have GY:=hZ (show w.heap.size<=w.heap.size from H0c _);clear hb1 hc1 hf1 hs1 hz1_0 hc1_0 hf1_0;generalize w1.heap.size=cb at *;generalize w1.alloc (.cells #[.int .i64 c,.int .i64 0,.int .i64 0,.int .i64 0,.int .i64 0,.int .i64 0,.int .i64 0,.int .i64 0,.int .i64 0,.int .i64 0,.int .i64 0,.int .i64 0,.int .i64 0] 204)=wt at *;have mixed:prog.follows .mixedOrders=true:=by kernel_rfl
  have zy:=cell_lt y10;have EE10:=hZ E10;refine wp_region_any (by kernel_rfl) ?_;have pr55a:=Ext.r y10
  refine B3a (S:=fun W=>Ext wt W) (R:=Ext) 3 3 Ext.refl ?_ ?_ (by rfl)
  . exact Ext.drew exx
  refine' tkY 0 ?_;refine' tkY 1 ?_;refine' tkY 2 ?_;refine A9a (by kernel_rfl) ?_;intro x1 _ Ex1;clear pr55a;simp only [v0b,D9c];have hg11:x1.heap[cb]? = some (.cells (ints (c :: List.replicate 12 0)).toArray 204 (0,0)):=(Ex1.block _ (q4b.1 hg10).1).trans hg10;obtain ⟨x2,hcp,hg12,hb12⟩:=o2a hg11 (HS.out.ext (EE10.out.trans Ex1)) hml.1 hml.2;rw [<- HK2.out] at hg12;simp only [ints,E7c,F9c] at hg12;have QC:∀ (j:Nat) (v:Value),(#[.int .i64 a0,.int .i64 a1,.int .i64 a2,.int .i64 a3,.int .i64 a4,.int .i64 a5,.int .i64 a6,.int .i64 a7,.int .i64 a8,.int .i64 a9,.int .i64 a10,.int .i64 a11,.int .i64 a12]:Array Value)[j]? = some v->x2.cell? ⟨cb,j,none⟩=some v:=fun j v hv=>by simp only [World.cell?,hg12];exact hv
  have q0:=QC 0 _ rfl;have q1:=QC 1 _ rfl;have q2:=QC 2 _ rfl;have q3:=QC 3 _ rfl;have q4:=QC 4 _ rfl;have q5:=QC 5 _ rfl;have q6:=QC 6 _ rfl;have q7:=QC 7 _ rfl;have q8:=QC 8 _ rfl;have q9:=QC 9 _ rfl;have q10:=QC 10 _ rfl;have q11:=QC 11 _ rfl;have q12:=QC 12 _ rfl;have E2:=hZ (But.D3a EE10.out (But.trans (But.E7a (l:=[cb]) Ex1) hb12) (by simp;omega));have y12:=(hb12.cell (cell_lt (Ex1.q y10)) (by simp;omega) 0).trans (Ex1.q y10);have m82:=E2.out.q c8;have m52:=E2.out.q c5;clear hg10 y10 zy E10 EE10 hg11 hb12 Ex1 QC hg12 c8 c5 z8;go_upto_region 5 with fail
  clear hcp;have zk2:=cell_lt q0;have zy2:=cell_lt y12;have zm2:=cell_lt m82;have pr56a:=Ext.r m82
  have pr56b:=Ext.r q0;have pr56c:=Ext.r q1;have pr56d:=Ext.r q2;have pr56e:=Ext.r q3;have pr56f:=Ext.r q4;have pr56g:=Ext.r q5;have pr56h:=Ext.r q6;have pr56i:=Ext.r q7;have pr56j:=Ext.r q8;have pr56k:=Ext.r q9;have pr56l:=Ext.r q10;have pr56m:=Ext.r q11;have pr56n:=Ext.r q12
  have pr56o:=fun u_ (h_:Ext x2 u_)=>LK.out _ (E2.out.trans h_)
  refine rg0 x2 ?_
  refine' tkd 0 ?_;refine' tkd 2 ?_;refine' tkd 4 ?_;refine' tkd 6 ?_;refine' tkd 8 ?_;refine' tkL 10 ?_;refine A0a (by kernel_rfl) ?_ _;intro x3 _ Ex3;clear pr56a pr56b pr56c pr56d pr56e pr56f pr56g pr56h pr56i pr56j pr56k pr56l pr56m pr56n pr56o;have E3:=hZ (E2.out.trans Ex3);have m83:=Ex3.q m82;have m53:=Ex3.q m52;have y13:=Ex3.q y12;have r0:=Ex3.q q0;have r1:=Ex3.q q1;have r2:=Ex3.q q2;have r3:=Ex3.q q3;have r4:=Ex3.q q4;have r5:=Ex3.q q5;have r6:=Ex3.q q6;have r7:=Ex3.q q7;have r8:=Ex3.q q8;have r9:=Ex3.q q9;have r10:=Ex3.q q10;have r11:=Ex3.q q11;have r12:=Ex3.q q12;clear q0 q1 q2 q3 q4 q5 q6 q7 q8 q9 q10 q11 q12 m82 m52 y12 zk2 zy2 zm2 Ex3;have zk3:=cell_lt r0;have zy3:=cell_lt y13;have zm3:=cell_lt m83;go_upto_region 8 with fail
  refine wp_region_any (by kernel_rfl) ?_;have pr57a:=Ext.r m83
  have pr57b:=Ext.r r0;have pr57c:=Ext.r r1;have pr57d:=Ext.r r2;have pr57e:=Ext.r r3;have pr57f:=Ext.r r4;have pr57g:=Ext.r r5;have pr57h:=Ext.r r6;have pr57i:=Ext.r r7;have pr57j:=Ext.r r8;have pr57k:=Ext.r r9;have pr57l:=Ext.r r10;have pr57m:=Ext.r r11;have pr57n:=Ext.r r12
  refine B3a (S:=fun W=>Ext x3 W) (R:=Ext) 6 6 Ext.refl ?_ ?_ (by rfl)
  . exact Ext.drew exx
  refine' tkY 0 ?_;refine' tkY 1 ?_;refine' tkY 2 ?_;refine' tkY 3 ?_;refine' tkY 4 ?_;refine' tkY 5 ?_;refine A9a (by kernel_rfl) ?_;intro x4 _ Ex4;clear pr57a pr57b pr57c pr57d pr57e pr57f pr57g pr57h pr57i pr57j pr57k pr57l pr57m pr57n;simp only [v0b,D9c];have E4:=hZ (E3.out.trans Ex4);have m54:=Ex4.q m53;have y14:=Ex4.q y13;obtain ⟨w5,hup,hm5,ht5⟩:=PU.out x4 E4.out;have N4:=hZ (H.out.ext' E4.out);have B5:But [i.gn] x4 w5:=(But.refl _ _).turned ht5 (.inl (by simp));have gyx:w.heap.size ∉ [i.gn]:=fun hm=>by have:=(H.out.lo i.gn (.inl (MkSt.in_n _ _ _))).2;rw [w8b.1 hm] at this;omega
  have gmx:i.gm ∉ [i.gn]:=by simpa using H.out.nd.2.1
  have y15:=(B5.cell (cell_lt y14) gyx 0).trans y14;have m55:=(B5.cell (cell_lt m54) gmx 5).trans m54;have NR:=hZ (N4.out.n.nr.but B5 (fun b o e hm=>(N4.out.ndn b (C2a e)).2.2.1 (w8b.1 hm)));have fz5:=(B5.frozen (cell_lt m54) gmx 5).trans (N4.out.c.z 5);have HB5:=hZ B5;have HM5:=hZ hm5;have HX4:=hZ (show w.heap.size<=x4.heap.size from E4.out.le);clear m83 m53 y13 r0 r1 r2 r3 r4 r5 r6 r7 r8 r9 r10 r11 r12 zk3 zy3 zm3 m54 y14 Ex4 ht5 gyx gmx B5 hm5;go_upto_region 9 with fail
  clear hup;refine wp_region_any (by kernel_rfl) ?_;refine B3a (S:=(fun W:World=>W.cell? ⟨w.heap.size,0,none⟩=some (.slice (some ⟨g0,0,none⟩) ks.length c0)/\W.cell? ⟨i.gm,5,none⟩=some (.slice pn nn cn))) (R:=Eq) 14 14 (fun _=>rfl) (by exact ⟨y15,m55⟩) ?_ (by rfl);refine' tkF 0 ?_;refine' tkF 1 ?_;refine' tkF 2 ?_;refine' tkF 3 ?_;refine' tkF 4 ?_;refine' tkF 5 ?_ (hy:=by intro w hSw;(obtain ⟨s1,s2⟩:=hSw);go_simp;try with_reducible rfl);refine' tkF 6 ?_;refine' tkF 7 ?_ (hy:=by intro w hSw;(obtain ⟨s1,s2⟩:=hSw);go_simp;try with_reducible rfl);refine' tkF 8 ?_;have W5:=hZ (show Ext w5 (World.drew w5) from Ext.drew (Ext.refl w5));change E0a _ _ _ _ _ _ _ _ _ _ _ (World.drew w5);have yd:=W5.out.q y15;have md:=W5.out.q m55;generalize World.drew w5=wd at W5 yd md ⊢;refine H6a [9] (by kernel_rfl) (by simp) (by simp) ?_;intro i9 hi9;obtain rfl:i9=9:=by simpa using hi9
  have A6:Ext wd (wd.alloc (.cells #[.int .i64 c,.slice (some ⟨g0,0,none⟩) ks.length c0] 41)):=Ext.alloc (Ext.refl wd) _;have ya:=A6.q yd;have ma:=A6.q md;have e0:(wd.alloc (.cells #[.int .i64 c,.slice (some ⟨g0,0,none⟩) ks.length c0] 41)).cell? ⟨wd.heap.size,0,none⟩=some (.int .i64 c):=by go_simp
  have e1:(wd.alloc (.cells #[.int .i64 c,.slice (some ⟨g0,0,none⟩) ks.length c0] 41)).cell? ⟨wd.heap.size,1,none⟩=some (.slice (some ⟨g0,0,none⟩) ks.length c0):=by go_simp
  refine c4a (i:=9) (v:=.slice (some ⟨wd.heap.size,0,none⟩) 1 1) (w'':=wd.alloc (.cells #[.int .i64 c,.slice (some ⟨g0,0,none⟩) ks.length c0] 41)) rfl (by rfl) (by go_simp) ⟨⟨ya,ma⟩, ?_⟩;refine layy ?_;have W6:=hZ (W5.out.trans A6);clear y15 m55 yd md A6;generalize wd.heap.size=gt at e0 e1 ⊢;generalize wd.alloc (.cells #[.int .i64 c,.slice (some ⟨g0,0,none⟩) ks.length c0] 41)=w6 at *;refine H6a [10] (by kernel_rfl) (by simp) (by simp) ?_;intro i10 hi10;obtain rfl:i10=10:=by simpa using hi10
  refine Q6a (i:=10) (.tmp 50) (.tmp 54) 47 41 rfl rfl (by rfl) (z:=.agg #[.int .i64 0,.slice none 0 0]) (n:=2) (bytes:=32) underlying47 (by kernel_rfl) rfl (by decide) (by decide) (m:=nn) (by rw [v6b,N4.out.n.kl,G6c,HNN.out]) rfl rfl (NR.out.ext W6.out) (y:=[.int .i64 c,.slice (some ⟨g0,0,none⟩) ks.length c0]) rfl (cells2 e0 e1) (by simp [Value.oneCell']) (by omega) ?_;intro g cap w7 row hR hG hrow hg hlt;have gm5:i.gm ∉ blk pn:=fun hm=>(N4.out.ndn _ hm).1 rfl
  have k7:But (blk pn) w6 w7:=⟨hG.os,hG.tape,hG.output,hG.size,fun j hj hn=>hG.block j hj fun e=>hn (by rw [hrow j e.symm];simp [blk])⟩
  have gyp:w.heap.size ∉ blk pn:=fun hm=>by have:=(H.out.lo _ (.inl (MkSt.l0a _ _ _ hm))).2;omega
  have y17:=(k7.cell (cell_lt ya) gyp 0).trans ya;have m57:=(k7.cell (cell_lt ma) gm5 5).trans ma;have fz7:=(k7.frozen (cell_lt ma) gm5 5).trans ((W6.out.frozen (by have:=HB5.out.size;have:=(N4.out.lo i.gm (.inl (MkSt.in_m _ _ _))).2;omega) 5).trans fz5);have NB:=hZ (N4.out.node_ (g0:=g0) (c0:=c0) (q:=(c,ks)) (HB5.out.trans (But.E7a W6.out)) (by have:=HM5.out.ext W6.out;rw [<- HK2x.out] at this;exact this) hR hG hrow hg hlt (HS.out.ext E4.out) ⟨H0.out.1,by have:=H0.out.2;have:=HX4.out;omega⟩ H2.out);rw [HNN.out] at NB;refine ⟨⟨y17,m57⟩, ?_⟩;refine layy ?_;clear hR hG hrow hg hlt k7 ya ma e0 e1 gm5 gyp
  skip
  refine' tkF 11 ?_;refine' tkF 12 ?_;refine' tkF 13 ?_;refine A9a (by kernel_rfl) ?_;intro w9 e9 _;subst e9;simp only [v0b,D9c]
  go_wp2_with fail
  go_returns;obtain ⟨N8,B8,GI⟩:=NB.out;refine ⟨rfl,_,_,_,_,N8, ?_, ?_⟩
  . have b1:But (i.dyn pe pn) w x4:=But.E7a E4.out;exact b1.trans (B8.mono (l':=i.dyn pe pn) (fun x hx=>by
     rcases E6c.1 hx with rfl | hx
     . exact MkSt.in_m _ _ _
     . rcases E6c.1 hx with rfl | hx
       . exact MkSt.in_n _ _ _
       . exact MkSt.l0a _ _ _ hx))
  intro b hb;have l2:=HX4.out;simp only [Mkr.dyn,blk,E6c,C4c,A9c,or_false] at hb
  rcases hb with hb | hb | hb | hb | hb
  . exact .inl (by rw [hb];exact MkSt.in_m _ _ _)
  . exact .inl (by rw [hb];exact MkSt.in_e _ _ _)
  . exact .inl (by rw [hb];exact MkSt.in_n _ _ _)
  . exact .inl (MkSt.l1a _ _ _ hb)
  rw [hb]
  rcases GI with h | h
  . exact .inl (MkSt.l0a _ _ _ h)
  exact .inr (by omega)
structure Cn where
 mb:Nat
 db:Nat
 kb:Nat
 fb:Nat
 gk:Nat
def Cn.fixed (c:Cn):List Nat:=[c.mb,c.db,c.kb,c.fb]
def Cn.fv (c:Cn):Value:=.func (.func 196) #[] #[.pointer (some ⟨c.mb,0,none⟩),.pointer (some ⟨c.db,0,none⟩),.pointer (some ⟨c.kb,0,none⟩),.pointer (some ⟨c.fb,0,none⟩)]
def Cn.args (c:Cn) (r:Int):Array Value:=#[.int .i64 r,.pointer (some ⟨c.mb,0,none⟩),.pointer (some ⟨c.db,0,none⟩),.pointer (some ⟨c.kb,0,none⟩),.pointer (some ⟨c.fb,0,none⟩)]
structure CnSt (wb w:World) (c:Cn) (i:Mkr) (L:DgL) (d:Nd.Dia) (s:Nd.Cl) (pe:Option Addr) (ce:Nat) (pn:Option Addr) (cn:Nat) (K:List (Nat × Nat)):Prop where
 sm:MkSt wb w i s.ends s.nodes pe ce pn cn K
 m:w.cell? ⟨c.mb,0,none⟩=some (.pointer (some ⟨i.gm,0,none⟩))
 d:LsAt w c.db L d.sizes.length d.order.length d.ends.length d.nodes.length d.root
 k:w.cell? ⟨c.kb,0,none⟩=some (.map (some c.gk))
 f:w.cell? ⟨c.fb,0,none⟩=some c.fv
 map:G4a prog w c.gk s.known
 lo:∀ b,b ∈ c.fixed \/ b=c.gk->wb.heap.size<=b/\b < w.heap.size
 fx:∀ b,b ∈ c.fixed \/ b=c.gk->b ∉ i.dyn pe pn/\b ∉ K.map Prod.fst
 gx:c.gk ∉ c.fixed
namespace CnSt
variable {wb w w':World} {c:Cn} {i:Mkr} {L:DgL} {d:Nd.Dia} {s:Nd.Cl} {pe pn:Option Addr} {ce cn:Nat} {K:List (Nat × Nat)}
theorem in1 (c:Cn):c.mb ∈ c.fixed:=by simp [Cn.fixed]
theorem in2 (c:Cn):c.db ∈ c.fixed:=by simp [Cn.fixed]
theorem in3 (c:Cn):c.kb ∈ c.fixed:=by simp [Cn.fixed]
theorem in4 (c:Cn):c.fb ∈ c.fixed:=by simp [Cn.fixed]
theorem j6b {n1 n2 n3 n4:Nat} {rt:Int} (h:LsAt w g L n1 n2 n3 n4 rt) {l:List Nat} (k:But l w w') (hg:g ∉ l):LsAt w' g L n1 n2 n3 n4 rt:=by
 have z:=cell_lt h.c0
 exact ⟨(k.cell z hg 0).trans h.c0,(k.cell z hg 1).trans h.c1,(k.cell z hg 2).trans h.c2,(k.cell z hg 3).trans h.c3,(k.cell z hg 4).trans h.c4,(k.cell z hg 5).trans h.c5,(k.cell z hg 6).trans h.c6⟩
theorem far (h:CnSt wb w c i L d s pe ce pn cn K) {l:List Nat} (k:But l w w') (hw:∀ b ∈ l,wb.heap.size<=b) (hl:∀ b ∈ l,b ∉ c.fixed/\b ≠ c.gk/\b ∉ i.dyn pe pn/\b ∉ K.map Prod.fst):CnSt wb w' c i L d s pe ce pn cn K:=by
 have f1:∀ b ∈ c.fixed,b ∉ l:=fun b hb hm=>(hl b hm).1 hb
 exact
  { sm:=h.sm.far k hw fun b hb=>(hl b hb).2.2
    m:=(k.cell (cell_lt h.m) (f1 _ (in1 c)) 0).trans h.m
    d:=j6b h.d k (f1 _ (in2 c))
    k:=(k.cell (cell_lt h.k) (f1 _ (in3 c)) 0).trans h.k
    f:=(k.cell (cell_lt h.f) (f1 _ (in4 c)) 0).trans h.f
    map:=h.map.but k fun hm=>(hl _ hm).2.1 rfl
    lo:=fun b hb=>⟨(h.lo b hb).1,x4b (h.lo b hb).2 k.size⟩
    fx:=h.fx
    gx:=h.gx }
theorem ext' (h:CnSt wb w c i L d s pe ce pn cn K) (k:Ext w w'):CnSt wb w' c i L d s pe ce pn cn K:=h.far (l:=[]) (But.E7a k) (by simp) (by simp)
theorem known_ (h:CnSt wb w c i L d s pe ce pn cn K) (k:But [c.gk] w w') (hm:G4a prog w' c.gk M):CnSt wb w' c i L d { s with known:=M } pe ce pn cn K:=by
 have f1:∀ b ∈ c.fixed,b ∉ [c.gk]:=fun b hb hm=>h.gx (by rw [<- w8b.1 hm];exact hb)
 have g:=h.lo c.gk (.inr rfl)
 have x:=h.fx c.gk (.inr rfl)
 exact
  { sm:=h.sm.far k (fun b hb=>by rw [w8b.1 hb];exact g.1) fun b hb=>by rw [w8b.1 hb];exact x
    m:=(k.cell (cell_lt h.m) (f1 _ (in1 c)) 0).trans h.m
    d:=j6b h.d k (f1 _ (in2 c))
    k:=(k.cell (cell_lt h.k) (f1 _ (in3 c)) 0).trans h.k
    f:=(k.cell (cell_lt h.f) (f1 _ (in4 c)) 0).trans h.f
    map:=hm
    lo:=fun b hb=>⟨(h.lo b hb).1,x4b (h.lo b hb).2 k.size⟩
    fx:=h.fx
    gx:=h.gx }
theorem made (h:CnSt wb w c i L d s pe ce pn cn K) {E:List (Int × Int)} {N:List (Int × List Int)} {pe' pn':Option Addr} {ce' cn':Nat} {K':List (Nat × Nat)} (hm:MkSt wb w' i E N pe' ce' pn' cn' K') (k:But (i.dyn pe pn) w w') (hd:∀ b ∈ i.dyn pe' pn',b ∈ i.dyn pe pn \/ w.heap.size<=b) (hk:∀ b ∈ K'.map Prod.fst,b ∈ K.map Prod.fst \/ (b ∉ c.fixed/\b ≠ c.gk)):CnSt wb w' c i L d ⟨s.known,E,N⟩ pe' ce' pn' cn' K':=by
 have f1:∀ b ∈ c.fixed,b ∉ i.dyn pe pn:=fun b hb=>(h.fx b (.inl hb)).1
 exact
  { sm:=hm
    m:=(k.cell (cell_lt h.m) (f1 _ (in1 c)) 0).trans h.m
    d:=j6b h.d k (f1 _ (in2 c))
    k:=(k.cell (cell_lt h.k) (f1 _ (in3 c)) 0).trans h.k
    f:=(k.cell (cell_lt h.f) (f1 _ (in4 c)) 0).trans h.f
    map:=h.map.but k (h.fx _ (.inr rfl)).1
    lo:=fun b hb=>⟨(h.lo b hb).1,x4b (h.lo b hb).2 k.size⟩
    fx:=fun b hb=>by
     have h1:=h.fx b hb;have h2:=(h.lo b hb).2;refine ⟨fun hm=>?_,fun hm=>?_⟩
     . rcases hd b hm with hm | hm
       . exact h1.1 hm
       omega
     rcases hk b hm with hm | hm
     . exact h1.2 hm
     rcases hb with hb | hb
     . exact hm.1 hb
     exact hm.2 hb
    gx:=h.gx }
end CnSt
def m8a (wb w:World) (c:Cn) (i:Mkr) (L:DgL) (d:Nd.Dia) (dn:List Nat) (K0:List (Nat × Nat)) (x:Int) (s:Nd.Cl) (e:Ending) (w':World):Prop:=
 e = .returned (.int .i64 x) /\ ∃ (pe:Option Addr) (ce:Nat) (pn:Option Addr) (cn:Nat) (K:List (Nat × Nat)),CnSt wb w' c i L d s pe ce pn cn K/\But (c.gk :: dn) w w'/\(∀ b ∈ i.dyn pe pn,b ∈ dn \/ w.heap.size<=b)/\(∀ b ∈ K.map Prod.fst,b ∈ K0.map Prod.fst \/ w.heap.size<=b)
theorem b9b {c:Cn} {i:Mkr} {L:DgL} {d:Nd.Dia} {s:Nd.Cl} {K:List (Nat × Nat)} (h:CnSt wb w c i L d s pe ce pn cn K) (ha:(a:Int)<=9223372036854775807) (hk:getI a s.known=some x) :
    Calls prog 196 (c.args a) w (m8a wb w c i L d (i.dyn pe pn) K x s):=by
  have H:=hZ h;have k1:=h.k;have hlk:=h.map.h4a (t:=119) underlying3 underlying119 (zeroValue3 w) (k:=a) ha;rw [hk] at hlk;simp only [B6c,Option.isSome_some] at hlk;have t0:decide ((a:Int) < 0)=false:=dF;clear h hk ha;unfold Cn.args;go_enter func196,ntmps196
  go_wp2_with fail
  go_returns;exact ⟨rfl,pe,ce,pn,cn,K,H.out,But.refl _ _,fun b hb=>.inl hb,fun b hb=>.inl hb⟩
theorem V7b {i:Mkr} {s:Nd.Cl} {K:List (Nat × Nat)} (h:MkSt wb w i s.ends s.nodes pe ce pn cn K) {v:Int × Int} (hv:okV v) (hl:s.ends.length<=100000) :
    Calls prog 197 #[.pointer (some ⟨i.gm,0,none⟩),.agg #[.int .u8 v.1,.int .i64 v.2]] w (w7a wb w i (i.dyn pe pn) (Nd.mEnd v s).1 (Nd.mEnd v s).2.ends (Nd.mEnd v s).2.nodes K):=by
  unfold Nd.mEnd
  cases hj:s.ends.idxOf? v with
  | some j=>exact S7b h hv hj (by have:=(p4b.1 hj).1;omega)
  | none=>exact Y3b h hv hj hl
theorem cn_end {c:Cn} {i:Mkr} {L:DgL} {d:Nd.Dia} {s:Nd.Cl} {K:List (Nat × Nat)} {r:Int} (hd:DgRd wb L d.sizes d.order d.ends d.nodes) (h:CnSt wb w c i L d s pe ce pn cn K) (h0:r < 0) (hr : -1-r < d.ends.length) (hv:∀ v ∈ d.ends,okV v) (hel:d.ends.length<=1000) (hl:s.ends.length<=100000) :
    Calls prog 196 (c.args r) w (m8a wb w c i L d (i.dyn pe pn) K (Nd.mEnd (d.l7a (-1-r).toNat) s).1 (Nd.mEnd (d.l7a (-1-r).toNat) s).2):=by
  obtain ⟨e,he⟩:∃ e:Nat,-1-r=(e:Int):=⟨(-1-r).toNat,by omega⟩
  rw [he,z5b];obtain ⟨v,hv0⟩:=A5a (E:=d.ends) (j:=e) (by omega);have hev:d.l7a e=v:=by unfold Nd.Dia.l7a;rw [hv0];rfl
  rw [hev];have hov:=hv v (u1b hv0);obtain ⟨b,o,hp,hb,hc⟩:=hd.e.L0a (by omega);obtain ⟨q1,q2⟩:=hc e v hv0;have q1:=h.sm.ext.q q1;have q2:=h.sm.ext.q q2;have l3:=hd.e.le;rw [C6c] at l3;have H:=hZ h;have m1:=h.m;have d4:=h.d.c4;rw [hp] at d4;have NE:=hZ (fun W=>nEnd (w:=W) r (by omega) h0);rw [he] at NE;have t0:decide (r < 0)=true:=E5c h0;have te:decide ((e:Int) < (d.ends.length:Int))=true:=dT;have tl:e < d.ends.length:=by omega
  have HOV:=hZ hov;have HLL:=hZ hl;clear h hd hv hv0 hc hev hr h0 he hov hl;generalize d.ends.length=n3 at *;obtain ⟨f,n⟩:=v;simp only at q1 q2;unfold Cn.args;have mixed:prog.follows .mixedOrders=true:=by kernel_rfl
  go_enter func196,ntmps196;go_upto_region 2 with fail
  refine D4a (S:=fun W=>W.cell? ⟨c.mb,0,none⟩=some (.pointer (some ⟨i.gm,0,none⟩))/\W.cell? ⟨c.db,4,none⟩=some (.slice (some ⟨b,o,none⟩) n3 L.ce)/\W.cell? ⟨b,o+e * 2,none⟩=some (.int .u8 f)/\W.cell? ⟨b,o+e * 2+1,none⟩=some (.int .i64 n)) (R:=Eq) (by kernel_rfl) (fun _=>rfl) ?_ ?_
  . exact ⟨m1,d4,q1,q2⟩
  refine' tkr 0 ?_ (hy:=by intro w hSw;(obtain ⟨s1,s2,s3,s4⟩:=hSw);go_simp;try with_reducible rfl);refine' tkr 1 ?_ (hy:=by intro w hSw;(obtain ⟨s1,s2,s3,s4⟩:=hSw);go_simp;try with_reducible rfl);refine' tkr 2 ?_ (hy:=by intro w hSw;(obtain ⟨s1,s2,s3,s4⟩:=hSw);go_simp;try with_reducible rfl);refine' tkr 3 ?_ (hy:=by intro w hSw;(obtain ⟨s1,s2,s3,s4⟩:=hSw);go_simp;try with_reducible rfl);refine' tkr 4 ?_ (hy:=by intro w hSw;(obtain ⟨s1,s2,s3,s4⟩:=hSw);go_simp;try with_reducible rfl);refine H5a 5 (f:=198) (args:=#[.int .i64 r]) rfl (by kernel_rfl) (by rfl) ?run5 ?call5
  case run5=>go_simp
  refine (NE.out _).mono ?_;rintro e5 w5 ⟨rfl,hE5⟩;have E5:=hZ (show Ext w w5 from (Ext.drew (Ext.refl w)).trans hE5);have m15:=E5.out.q m1;have d45:=E5.out.q d4;have q15:=E5.out.q q1;have q25:=E5.out.q q2;refine ⟨.int .i64 (e:Int),rfl,⟨m15,d45,q15,q25⟩, ?_⟩;clear hE5;refine layy ?_;refine' tkr 6 ?_ (hy:=by intro w hSw;(obtain ⟨s1,s2,s3,s4⟩:=hSw);go_simp;try with_reducible rfl);refine' tkr 7 ?_ (hy:=by intro w hSw;(obtain ⟨s1,s2,s3,s4⟩:=hSw);go_simp;try with_reducible rfl);refine H5a 8 (f:=197) (args:=#[.pointer (some ⟨i.gm,0,none⟩),.agg #[.int .u8 f,.int .i64 n]]) rfl (by kernel_rfl) (by rfl) ?run8 ?call8
  case run8=>go_simp
  have N5:=hZ (H.out.ext' E5.out);refine (V7b (s:=s) N5.out.sm HOV.out HLL.out).mono ?_;rintro e8 w8 ⟨rfl,pe',ce',pn',cn',hM,hB,hD⟩;have N8:=hZ (N5.out.made hM hB hD (fun b hb=>.inl hb));have B8:=hZ hB;have D8:=hZ hD;refine ⟨.int .i64 (Nd.mEnd (f,n) s).1,rfl,⟨N8.out.m,(hB.cell (cell_lt d45) (N5.out.fx c.db (.inl (CnSt.in2 c))).1 4).trans d45, ?_, ?_⟩, ?_⟩
  . have hlt:b < wb.heap.size:=hb;exact (hB.cell (cell_lt q15) (fun hm=>by have:=(N5.out.sm.lo b (.inl hm)).1;omega) _).trans q15
  . have hlt:b < wb.heap.size:=hb;exact (hB.cell (cell_lt q15) (fun hm=>by have:=(N5.out.sm.lo b (.inl hm)).1;omega) _).trans q25
  clear hM hB hD;refine layy ?_;refine' tkr 9 ?_;refine A0a (by kernel_rfl) ?_ _;intro w9 e9 _;subst e9
  go_wp2_with fail
  go_returns;have hs:(⟨s.known,(Nd.mEnd (f,n) s).2.ends,(Nd.mEnd (f,n) s).2.nodes⟩:Nd.Cl)=(Nd.mEnd (f,n) s).2:=by
   unfold Nd.mEnd
   split <;> rfl
  have NF:=N8.out;rw [hs] at NF;have le5:=E5.out.le;refine ⟨rfl,pe',ce',pn',cn',K,NF,((But.E7a E5.out).trans (B8.out.mono fun x hx=>u3b _ hx)),fun b hb=>?_,fun b hb=>.inl hb⟩
  rcases D8.out b hb with h | h
  . exact .inl h
  exact .inr (by omega)
end Go.Proofs.YtdokmmhjmclmnaaGreat
