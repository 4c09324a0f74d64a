/- Part 1 of a proof. -/
import Derived.BigQuiet
import Derived.Deep.DeepCutAuto
import Derived.Deep.RegionHeld3
import Derived.Handy
import Derived.Laws.CopyOwn
import Derived.Lib.Hide
import Derived.Maps.Ext
import Derived.OwnWalkIn
import Derived.RangeFuncFrom
import Derived.Shelf.RegionOpenPlain
import Derived.Test.YtdokmmhjmclmnaaGreatRows
import Derived.WalkLawsBesides
import Derived.WalkSpells
set_option linter.unusedSimpArgs false
set_option linter.unusedVariables false
set_option linter.unusedSectionVars false
set_option linter.unnecessarySimpa false
namespace Go.Proofs.YtdokmmhjmclmnaaGreat
abbrev p4b:=@_root_.List.findIdx?_eq_some_iff_getElem
abbrev p5b:=@_root_.List.take_succ_eq_append_getElem
abbrev p6b:=@_root_.Array.all_eq_true_iff_forall_mem
abbrev p7b:=@_root_.List.eq_nil_iff_forall_not_mem
abbrev p8b:=@_root_.List.eq_nil_of_length_eq_zero
abbrev p9b:=@_root_.Int.mul_le_mul_of_nonneg_left
abbrev q0b:=@_root_.List.getElem?_append_right
abbrev q1b:=@_root_.List.getD_eq_getElem?_getD
abbrev q2b:=@_root_.List.setIfInBounds_toArray
abbrev q3b:=@_root_.List.nodup_iff_pairwise_ne
abbrev q4b:=@_root_.Array.getElem?_eq_some_iff
abbrev q5b:=@_root_.List.getElem?_eq_some_iff
abbrev q6b:=@_root_.List.getElem?_append_left
abbrev q7b:=@_root_.List.findIdx?_eq_none_iff
abbrev q8b:=@_root_.List.drop_eq_getElem_cons
abbrev q9b:=@_root_.List.pairwise_iff_getElem
abbrev r0b:=@_root_.Classical.byContradiction
abbrev r1b:=@_root_.List.getElem?_eq_getElem
abbrev r2b:=@_root_.List.getElem?_take_of_lt
abbrev r3b:=@_root_.List.length_erase_of_mem
abbrev r4b:=@_root_.List.eq_of_mem_replicate
abbrev r5b:=@_root_.Go.World.cell?_setCell_same
abbrev r6b:=@_root_.List.getElem?_replicate
abbrev r7b:=@_root_.List.filter_cons_of_pos
abbrev r8b:=@_root_.List.filter_cons_of_neg
abbrev r9b:=@_root_.List.idxOf?_eq_none_iff
abbrev s0b:=@_root_.Option.bind_eq_some_iff
abbrev s1b:=@_root_.Go.World.putObj_heap_other
abbrev s2b:=@_root_.List.length_pos_of_mem
abbrev s3b:=@_root_.List.getElem_cons_zero
abbrev s4b:=@_root_.List.getElem_cons_succ
abbrev s5b:=@_root_.List.drop_of_length_le
abbrev s6b:=@_root_.List.take_of_length_le
abbrev s7b:=@_root_.Array.getElem?_eq_none
abbrev s8b:=@_root_.Go.World.cell?_alloc_mark
abbrev s9b:=@_root_.List.getElem?_eq_none
abbrev t0b:=@_root_.List.length_replicate
abbrev t1b:=@_root_.List.singleton_append
abbrev t3b:=@_root_.List.contains_iff_mem
abbrev t4b:=@_root_.List.length_filter_le
abbrev t5b:=@_root_.List.set_append_right
abbrev t6b:=@_root_.List.mem_iff_getElem?
abbrev t7b:=@_root_.List.length_singleton
abbrev t8b:=@_root_.List.take_append_drop
abbrev t9b:=@_root_.List.mem_erase_of_ne
abbrev u0b:=@_root_.List.count_le_length
abbrev u1b:=@_root_.List.mem_of_getElem?
abbrev u2b:=@_root_.List.getElem_toArray
abbrev u3b:=@_root_.List.mem_cons_of_mem
abbrev u4b:=@_root_.List.mem_of_mem_take
abbrev u5b:=@_root_.List.mem_of_mem_drop
abbrev u6b:=@_root_.Go.World.alloc_heap_new
abbrev u7b:=@_root_.List.map_congr_left
abbrev u9b:=@_root_.List.getElem_of_mem
abbrev v0b:=@_root_.List.drop_succ_cons
abbrev v1b:=@_root_.List.take_succ_cons
abbrev v2b:=@_root_.List.length_pos_iff
abbrev v3b:=@_root_.List.replicate_succ
abbrev v4b:=@_root_.List.replicate_zero
abbrev v5b:=@_root_.List.toList_toArray
abbrev v6b:=@_root_.List.length_zipWith
abbrev v7b:=@_root_.List.length_reverse
abbrev v8b:=@_root_.List.reverse_append
abbrev v9b:=@_root_.Option.bind_eq_bind
abbrev w0b:=@_root_.Array.toList_modify
abbrev w1b:=@_root_.List.getElem?_drop
abbrev w2b:=@_root_.List.length_append
abbrev w3b:=@_root_.List.pairwise_cons
abbrev w4b:=@_root_.List.find?_eq_none
abbrev w5b:=@_root_.List.count_eq_zero
abbrev w6b:=@_root_.List.set_cons_zero
abbrev w7b:=@_root_.List.set_cons_succ
abbrev w8b:=@_root_.List.mem_singleton
abbrev w9b:=@_root_.List.map_replicate
abbrev x0b:=@_root_.List.getElem_range
abbrev x1b:=@_root_.List.prefix_append
abbrev x2b:=@_root_.List.getElem?_take
abbrev x3b:=@_root_.Option.toList_some
abbrev x4b:=@_root_.Nat.lt_of_lt_of_le
abbrev x5b:=@_root_.Int.natCast_nonneg
abbrev x6b:=@_root_.Bool.false_eq_true
abbrev x7b:=@_root_.Bool.true_eq_false
abbrev y0b:=@_root_.Go.World.ownsMap_made
abbrev y1b:=@_root_.List.append_assoc
abbrev y2b:=@_root_.List.ext_getElem?
abbrev y3b:=@_root_.List.mem_of_head?
abbrev y4b:=@_root_.List.filter_congr
abbrev y5b:=@_root_.List.length_range
abbrev y6b:=@_root_.List.take_add_one
abbrev y7b:=@_root_.List.getElem?_map
abbrev y8b:=@_root_.List.nodup_append
abbrev y9b:=@_root_.List.pairwise_map
abbrev z0b:=@_root_.List.foldl_append
abbrev z1b:=@_root_.List.flatten_cons
abbrev z3b:=@_root_.List.count_append
abbrev z4b:=@_root_.List.flatMap_cons
abbrev z5b:=@_root_.Int.toNat_natCast
abbrev z6b:=@_root_.Array.toList_push
abbrev z7b:=@_root_.Option.some.injEq
abbrev z8b:=@_root_.Go.IntWalk.wrap64_in
abbrev z9b:=@_root_.Classical.not_not
abbrev A0c:=@_root_.Go.World.ownsRow_nil
abbrev A1c:=@_root_.decide_eq_true_eq
abbrev A2c:=@_root_.of_decide_eq_true
abbrev A3c:=@_root_.List.length_take
abbrev A4c:=@_root_.List.getElem_mem
abbrev A5c:=@_root_.List.length_cons
abbrev A6c:=@_root_.List.cons_append
abbrev A7c:=@_root_.List.all_eq_true
abbrev A8c:=@_root_.List.take_length
abbrev A9c:=@_root_.List.not_mem_nil
abbrev B0c:=@_root_.List.mem_flatMap
abbrev B1c:=@_root_.List.idxOf?_cons
abbrev B2c:=@_root_.List.any_eq_true
abbrev B3c:=@_root_.List.filter_cons
abbrev B4c:=@_root_.List.prefix_refl
abbrev B5c:=@_root_.Option.bind_some
abbrev B6c:=@_root_.Option.getD_some
abbrev B8c:=@_root_.Bool.and_eq_true
abbrev B9c:=@_root_.Go.World.cell?_spot
abbrev C0c:=@_root_.List.mem_filter
abbrev C1c:=@_root_.List.nil_append
abbrev C2c:=@_root_.List.nodup_cons
abbrev C3c:=@_root_.List.count_cons
abbrev C4c:=@_root_.List.mem_append
abbrev C5c:=@_root_.List.map_append
abbrev C6c:=@_root_.List.length_map
abbrev C7c:=@_root_.List.append_nil
abbrev C8c:=@_root_.List.length_nil
abbrev C9c:=@_root_.Option.pure_def
abbrev D0c:=@_root_.Nat.not_lt_zero
abbrev D1c:=@_root_.Nat.min_eq_left
abbrev D2c:=@_root_.Int.natCast_add
abbrev D3c:=@_root_.Option.some.inj
abbrev D4c:=@_root_.Bool.or_eq_true
abbrev D5c:=@_root_.Bool.eq_iff_iff
abbrev D6c:=@_root_.List.cons.injEq
abbrev D7c:=@_root_.decide_eq_false
abbrev D8c:=@_root_.List.mem_range
abbrev D9c:=@_root_.List.drop_zero
abbrev E0c:=@_root_.List.take_zero
abbrev E1c:=@_root_.Int.mul_le_mul
abbrev E2c:=@_root_.Bool.not_false
abbrev E3c:=@_root_.Bool.false_and
abbrev E4c:=@_root_.Go.IntWalk.i64_in
abbrev E5c:=@_root_.decide_eq_true
abbrev E6c:=@_root_.List.mem_cons
abbrev E7c:=@_root_.List.map_cons
abbrev E8c:=@_root_.List.all_cons
abbrev E9c:=@_root_.Nat.lt_irrefl
abbrev F0c:=@_root_.Nat.add_assoc
abbrev F1c:=@_root_.Prod.mk.injEq
abbrev F2c:=@_root_.Bool.not_true
abbrev F3c:=@_root_.Bool.false_or
abbrev F4c:=@_root_.Bool.and_true
abbrev F5c:=@_root_.Bool.true_and
abbrev F6c:=@_root_.List.cons.inj
abbrev F7c:=@_root_.List.mem_map
abbrev F8c:=@_root_.List.map_map
abbrev F9c:=@_root_.List.map_nil
abbrev G0c:=@_root_.Nat.add_zero
abbrev G1c:=@_root_.Nat.sub_self
abbrev G3c:=@_root_.Nat.lt_or_ge
abbrev G4c:=@_root_.Nat.zero_add
abbrev G5c:=@_root_.Nat.le_trans
abbrev G6c:=@_root_.Nat.min_self
abbrev G7c:=@_root_.Int.le_trans
abbrev G8c:=@_root_.Go.Addr.add_lit
abbrev G9c:=@_root_.Nat.zero_le
abbrev H0c:=@_root_.Nat.le_refl
abbrev H1c:=@_root_.if_false
abbrev H2c:=@_root_.if_true
abbrev H3c:=@_root_.dif_pos
abbrev H4c:=@_root_.if_neg
abbrev H5c:=@_root_.if_pos
open Go.Proofs.Tryz
abbrev bl_ (l:List Nat) (n:Nat):List Bool:=(List.range n).map fun i=>l.contains i
open Go.RowKit
theorem a3a {w:World} {p:Addr} {u:Value} (hc:w.cell? p=some u) (k:Nat):(w.setCell p u).heap[k]? = w.heap[k]? := by
 simp only [World.setCell,Array.getElem?_modify]
 by_cases hk:p.block=k
 . rw [H5c hk];subst hk;unfold World.cell? at hc
   cases ho:w.heap[p.block]? with
   | none=>rfl
   | some o=>
    cases o with
    | cells c t fr=>
     rw [ho] at hc;simp only at hc
     by_cases hs:p.spot.isSome
     . simp [hs]
     rw [H4c hs] at hc;simp only [Option.map_some,H4c hs];obtain ⟨hlt,hv⟩:=q4b.1 hc;rw [show c.setIfInBounds p.off u=c from by
      apply Array.ext
      . simp
      . intro i h1 h2;rw [Array.getElem_setIfInBounds]
        split
        . next e=>subst e;exact hv.symm
        . rfl]
    | _=>rfl
 rw [H4c hk]
def Ext (w w':World):Prop:=Below w.heap.size w w'
theorem Ext.refl (w:World):Ext w w:=Below.refl _ _
theorem Ext.le {w w':World} (h:Ext w w'):w.heap.size<=w'.heap.size:=Below.size h
theorem Ext.trans {a b c:World} (h:Ext a b) (k:Ext b c):Ext a c:=Below.trans h (Below.mono k h.le)
theorem Ext.alloc {a w:World} (h:Ext a w) (o:Obj):Ext a (w.alloc o):=Below.alloc h h.le o
theorem Ext.drew {a w:World} (h:Ext a w):Ext a w.drew:=Below.drew h
theorem Ext.setCell {a w:World} (h:Ext a w) {p:Addr} (hp:a.heap.size<=p.block) (u:Value):Ext a (w.setCell p u):=Below.setCell h hp u
theorem Ext.cell {w w':World} (h:Ext w w') {b:Nat} (hb:b < w.heap.size) (o:Nat):w'.cell? ⟨b,o,none⟩=w.cell? ⟨b,o,none⟩:=Below.cell (p:=⟨b,o,none⟩) h hb
theorem Ext.frozen {w w':World} (h:Ext w w') {b:Nat} (hb:b < w.heap.size) (o:Nat):w'.frozen? ⟨b,o,none⟩=w.frozen? ⟨b,o,none⟩:=Below.frozen (p:=⟨b,o,none⟩) h hb
theorem Ext.cells {w w':World} (h:Ext w w'):(∀ b o,b < w.heap.size->w'.cell? ⟨b,o,none⟩=w.cell? ⟨b,o,none⟩)/\(∀ b o,b < w.heap.size->w'.frozen? ⟨b,o,none⟩=w.frozen? ⟨b,o,none⟩)/\w.heap.size<=w'.heap.size:=
 ⟨fun _ _ hb=>h.cell hb _,fun _ _ hb=>h.frozen hb _,h.le⟩
theorem m4_ {P:Program} {f args} {w w0:World} {v:Value} {Q:Ending->World->Prop} (h:Calls P f args w0 fun e w'=>e = .returned v/\Ext w w') (k:∀ w',Ext w w'->(∀ b o,b < w.heap.size->w'.cell? ⟨b,o,none⟩=w.cell? ⟨b,o,none⟩)->(∀ b o,b < w.heap.size->w'.frozen? ⟨b,o,none⟩=w.frozen? ⟨b,o,none⟩)->w.heap.size<=w'.heap.size->Q (.returned v) w'):Calls P f args w0 Q:=by
 refine h.mono ?_
 rintro e w' ⟨rfl,h⟩
 exact k w' h h.cells.1 h.cells.2.1 h.cells.2.2
theorem c3_ {w w':World} (h:Ext w w') (b:Nat) (hb:b < w.heap.size:=by first | omega | (simp;done) | (simp;omega)):b < w'.heap.size/\(∀ o,w'.cell? ⟨b,o,none⟩=w.cell? ⟨b,o,none⟩)/\(∀ o,w'.frozen? ⟨b,o,none⟩=w.frozen? ⟨b,o,none⟩):=⟨x4b hb h.le,fun o=>h.cell hb o,fun o=>h.frozen hb o⟩
theorem Y9b {w : World} {b o : Nat} {v : Value} (h : w.cell? ⟨b, o, none⟩ = some v) : b < w.heap.size := by
  rcases G3c b w.heap.size with h' | h'
  · exact h'
  · simp [World.cell?, s7b h'] at h
theorem Ext.q {w w':World} (h:Ext w w') {b o:Nat} {v:Value} (e:w.cell? ⟨b,o,none⟩=some v):w'.cell? ⟨b,o,none⟩=some v:=(h.cell (Y9b e) o).trans e
theorem Ext.r {w:World} {b o:Nat} {v:Value} (e:w.cell? ⟨b,o,none⟩=some v) (u) (h:Ext w u):u.cell? ⟨b,o,none⟩=some v:=h.q e
abbrev Rt (w:World) (v:Value):Ending->World->Prop:=fun e w'=>e = .returned v/\Ext w w'
theorem exx {a b:World} (h:Ext a b:=by repeat' (first | (with_reducible exact Ext.refl _) | (with_reducible assumption) | (with_reducible refine Ext.alloc ?_ _) | (with_reducible refine Ext.drew ?_) | (with_reducible refine Ext.drewN ?_ _) | (with_reducible refine Ext.setCell ?_ ?_ _) | (with_reducible refine Ext.trans ?_ (by assumption)) | go_size)):Ext a b:=h
theorem layy {p q:Prop} (h:q) (e:p=q:=by first | (simp only [u2b,s3b,s4b,Act.put,q2b,w6b,w7b];exact rfl) | exact rfl):p:=e.mpr h
theorem hZ {p:Prop} (h:p):RowKit.Hid p:=h
theorem dT {p:Prop} [Decidable p] (h:p:=by omega):decide p=true:=E5c h
theorem dF {p:Prop} [Decidable p] (h:¬p:=by omega):decide p=false:=D7c h
theorem E7b (w:World) (o:Obj):(w.alloc o).heap[w.heap.size]? = some o:=by
 show (w.heap.push o)[w.heap.size]? = _
 simp
theorem Q7a {P:Program} (w:World) (dT sT ty elem:TypeId) (sz:Nat) (g o dLen dCap:Nat) (a:Addr) (sLen sCap:Nat) (cur:Array Value) (t:TypeId) (cs:List Value)
    (hu:P.underlying dT=some (.slice elem)) (hs:(P.info? elem).map (·.size)=some sz)
    (hg:w.heap[g]? = some (.cells cur t (0,0))) (hn:cs.length=Nat.min sLen dLen * sz)
    (hsrc:∀ j v,cs[j]? = some v->w.cell? (a.add j)=some v) (hfit:o+cs.length<=cur.size) (h1:∀ v ∈ cs,v.oneCell'=true) :
    (Builtin.copy_ #[dT,sT] ty #[.slice (some ⟨g,o,none⟩) dLen dCap,.slice (some a) sLen sCap]).run P w =
     .ok (goInt (Nat.min sLen dLen:Nat)) (w.setRow g (cur.toList.take o ++ cs ++ cur.toList.drop (o+cs.length)).toArray):=by
  have hl:=run_loadCells_list (P:=P) w a cs hsrc;have hst:=run_storeCells_at P g o t cs 0 cur w hg (by simpa using hfit) h1
  cases hq:P.info? elem with
  | none=>simp [hq] at hs
  | some i=>
   have hi:i.size=sz:=by simpa [hq] using hs
   simp [Builtin.copy_,run_underlying hu,Builtin.lenOf,Builtin.firstCells,sizeOf,typeInfo,hq,hi,<- hn,hl,hst]
variable {W' w w' w0 wb:World} {B a b bx c ca cap ce cn f g i j k lb m n qc:Nat} {choice e t x:Int} {A W fs ks l o z:List Int} {D T Y:List Nat} {p p2 pa pe pn q:Option Addr} {M:List (Nat × Int)}
namespace Hp
structure Hs where
 sizes:List Int
 order:List Int
 words:List Int
 taken:List Nat
deriving DecidableEq
def adr (x:Int):Option Nat:=if 0<=x then some x.toNat else none
def ck (x:Int):Option Int:=if -4611686018427387904 < x/\x < 4611686018427387904 then some x else none
def rd (W:List Int) (i:Nat):Option Int:=W[i]?
def ra (W:List Int) (i:Nat):Option Nat:=(rd W i).bind adr
def rc (W:List Int) (i:Nat):Option Int:=(rd W i).bind ck
def wr (W:List Int) (i:Nat) (v:Int):Option (List Int):=if i < W.length then some (W.set i v) else none
def sub (W:List Int) (i n:Nat):Option (List Int):=if i+n<=W.length then some ((W.drop i).take n) else none
def zero (W:List Int) (i n:Nat):Option (List Int):=if i+n<=W.length then some (W.take i ++ List.replicate n 0 ++ W.drop (i+n)) else none
def lay (W:List Int) (i:Nat) (l:List Int):Option (List Int):=if i+l.length<=W.length then some (W.take i ++ (l ++ W.drop (i+l.length))) else none
def within (least most n:Int):Bool:=decide (least<=n) && decide (n<=most)
def B1a (tag:Int):Bool:=within 20 24 tag
def isNode (sizes:List Int) (tag:Int):Bool:=within 1 sizes.length tag
def index (l:List Int) (x:Int):Int:=match l.findIdx? (· == x) with | some i=>i | none=>-1
def rank (order:List Int) (tag:Int):Int:=if B1a tag then order.length else index order (tag-1)
def wide (sizes:List Int) (tag:Int):Option Nat:=if B1a tag then some 5 else do return 4+(<- ra sizes (<- adr (tag-1)))
def sums:List Int->Int->Int->Option Int
 | [],_,n=>some n
 | f :: r,i,n=>do sums r (i+1) (<- ck (n+(i+1) * (<- ck f)))
def chain (tag:Int) (fields:List Int):Option Nat:=do return ((<- sums fields 0 (<- ck (7 * (<- ck tag)))) % 16).toNat
namespace Hs
variable (S:Hs)
def tag (a:Nat):Option Int:=rd S.words a
def k9a (a:Nat):Option Nat:=do wide S.sizes (<- S.tag a)
def fields (a:Nat):Option (List Int):=do sub S.words (a+4) ((<- S.k9a a)-4)
def kids (a:Nat):Option (List Int):=do if B1a (<- S.tag a) then some [] else S.fields a
def has (a:Int):Bool:=decide (0<=a) && S.taken.contains a.toNat
def fuel:Nat:=S.words.length+1
def H0a (tag:Int) (fields:List Int):Nat->Nat->Option Nat
 | 0,_=>none
 | n+1,a=>do
  if a=0 then some 0 else
  if (<- S.tag a)=tag/\(<- S.fields a)=fields then some a else
  H0a tag fields n (<- ra S.words (a+3))
def look (tag:Int) (fields:List Int):Option Nat:=do S.H0a tag fields S.fuel (<- ra S.words (<- chain tag fields))
def F2a (W:List Int) (wide:Nat):Nat->Nat->Option (Nat × List Int)
 | 0,_=>none
 | n+1,link=>do
  let a <- ra W link
  if a=0 then some (0,W) else
  let w <- rc W (a+1)
  let next <- rd W (a+2)
  if w-wide=0 then
   some (a,<- zero (<- wr W link next) a wide)
  else if 3<=w-wide then
   let rest:=a+wide
   let W <- wr W rest 0
   let W <- wr W (rest+1) (w-wide)
   let W <- wr W (rest+2) next
   let W <- wr W link rest
   some (a,<- zero W a wide)
  else F2a W wide n (a+2)
def take (wide:Nat):Option (Nat × List Int):=F2a S.words wide S.fuel 16
def insert (x:Nat):List Nat->List Nat
 | []=>[x]
 | y :: r=>if x < y then x :: y :: r else if x=y then y :: r else y :: insert x r
def use (by':Int):Nat->Nat->List Int->Option (List Int)
 | 0,_,W=>some W
 | n+1,j,W=>do
  let k <- ra W j
  use by' n (j+1) (<- wr W (k+1) ((<- rc W (k+1))+by'))
def add (tag:Int) (fields:List Int):Option (Nat × Hs):=do
 let at0 <- S.look tag fields
 if at0 ≠ 0 then some (at0,S) else
 let (a,W) <- S.take (<- wide S.sizes tag)
 if a=0 then some (0,{ S with words:=W }) else
 let head <- chain tag fields
 let h <- rd W head
 let W <- wr (<- wr W a tag) (a+3) h
 let W <- lay W (a+4) fields
 let W <- wr W head a
 let S1:Hs:={ S with words:=W,taken:=insert a S.taken }
 let W <- use 1 (<- S1.kids a).length (a+4) W
 some (a,{ S1 with words:=W })
def full (r:Nat × Hs):Int × Int × Hs:=if r.1=0 then (0,8,r.2) else (r.1,0,r.2)
def end' (fault n:Int):Option (Int × Int × Hs):=do
 if fault > 4 \/ (fault > 0/\n ≠ 0) \/ within (-9999) 9999 n=false then some (0,4,S) else
 return full (<- S.add (20+fault) [n])
def d7a (choice:Int):List Int->Option Bool
 | []=>some true
 | k :: r=>do if rank S.order (<- ck (<- S.tag (<- adr k))) > rank S.order (choice+1) then d7a choice r else some false
def D0a (choice:Int) (kids:List Int):Option Int:=do
 if within 0 (S.sizes.length-1) choice=false then some 3 else
 if (kids.length:Int) ≠ (<- rd S.sizes choice.toNat) then some 4 else
 if kids.all S.has=false then some 7 else
 if (<- S.d7a choice kids)=false then some 2 else some 0
def alike (l:List Int):Bool:=l.all (· == l.headD 0)
def make (choice:Int) (kids:List Int):Option (Int × Int × Hs):=do
 let e <- S.D0a choice kids
 if e ≠ 0 then some (0,e,S) else
 if alike kids then some ((<- kids.head?),0,S) else
 return full (<- S.add (choice+1) kids)
def find (choice:Int) (kids:List Int):Option (Int × Int):=do
 let e <- S.D0a choice kids
 if e ≠ 0 then some (0,e) else
 if alike kids then some ((<- kids.head?),0) else
 let a <- S.look (choice+1) kids
 if a=0 then some (0,7) else some (a,0)
def hold (a:Int):Option (Int × Hs):=do
 if S.has a=false then some (7,S) else
 return (0,{ S with words:=(<- wr S.words (a.toNat+2) ((<- rc S.words (a.toNat+2))+1)) })
def drop (a:Int):Option (Int × Hs):=do
 if S.has a=false then some (7,S) else
 let n <- rc S.words (a.toNat+2)
 if n=0 then some (9,S) else
 return (0,{ S with words:=(<- wr S.words (a.toNat+2) (n-1)) })
def adrs (l:List Int):Option (List Nat):=l.mapM adr
def L8a:Nat->List Nat->List Nat->Option (List Nat)
 | _,L,[]=>some L
 | 0,_,_ :: _=>none
 | n+1,L,a :: r=>do if L.contains a then L8a n L r else L8a n (insert a L) ((<- adrs (<- S.kids a)) ++ r)
def held:List Nat->Option (List Nat)
 | []=>some []
 | a :: r=>do let l <- held r;if (<- rd S.words (a+2)) > 0 then some (a :: l) else some l
def live:Option (List Nat):=do S.L8a (S.words.length+S.words.length+1) [] (<- S.held S.taken)
def C5a (live:List Nat):Nat->List Int->Nat->Option (List Int)
 | 0,_,_=>none
 | n+1,W,link=>do
  let a <- ra W link
  if a=0 then some W else
  if live.contains a then C5a live n W (a+3) else
  C5a live n (<- wr W link (<- rd W (a+3))) link
def J9a (live:List Nat) (n:Nat):List Int->List Nat->Option (List Int)
 | W,[]=>some W
 | W,l :: r=>do J9a live n (<- C5a live n W l) r
def unlink (live:List Nat):Option Hs:=do return { S with words:=(<- J9a live S.fuel S.words (List.range 16)) }
def seek (W:List Int) (a:Nat):Nat->Nat->Nat->Option (Nat × Nat)
 | 0,_,_=>none
 | n+1,before,link=>do
  let next <- ra W link
  if next ≠ 0/\next < a then seek W a n next (next+2) else some (before,link)
def free (a:Nat):Option Hs:=do
 let wide <- S.k9a a
 let W <- zero S.words a wide
 let T:=S.taken.erase a
 let (before,link) <- seek W a S.fuel 0 16
 let next <- rd W link
 let (wide,next,W) <- (if next=((a+wide:Nat):Int) then do
     let after <- rd W (a+wide+2)
     let w <- rc W (a+wide+1)
     some (<- ck (wide+w),after,<- wr (<- wr W (a+wide+1) 0) (a+wide+2) 0)
   else some ((wide:Int),next,W):Option (Int × Int × List Int))
 let joined <- (if before ≠ 0 then do some (decide (before+(<- rc W (before+1))=a)) else some false:Option Bool)
 if joined then
  let w <- rc W (before+1)
  return { S with words:=(<- wr (<- wr W (before+1) (w+wide)) (before+2) next),taken:=T }
 else
  return { S with words:=(<- wr (<- wr (<- wr W (a+1) wide) (a+2) next) link a),taken:=T }
def frees:Hs->List Nat->Option Hs
 | S,[]=>some S
 | S,a :: r=>do frees (<- S.free a) r
def j4a:Hs->List Nat->Option Hs
 | S,[]=>some S
 | S,a :: r=>do j4a { S with words:=(<- use (-1) (<- S.kids a).length (a+4) S.words) } r
def collect:Option (Nat × Hs):=do
 let live <- S.live
 let S1 <- S.unlink live
 let dead:=S1.taken.filter (fun a=>!live.contains a)
 let S2 <- j4a S1 dead
 let S3 <- frees S2 dead
 some (dead.length,S3)
end Hs
def new (sizes order:List Int) (words:Nat):Option Hs:=do
 let W <- wr (List.replicate words 0) 16 17
 let W <- wr W 18 (words-17)
 some ⟨sizes,order,W,[]⟩
end Hp
open Go.RowKit
structure But (l:List Nat) (w w':World):Prop where
 os:w'.os=w.os
 tape:w'.tape=w.tape
 output:w'.output=w.output
 size:w.heap.size<=w'.heap.size
 block:∀ k,k < w.heap.size->k ∉ l->w'.heap[k]? = w.heap[k]?
namespace But
variable {l:List Nat} {a b c w w':World}
theorem refl (l:List Nat) (w:World):But l w w:=⟨rfl,rfl,rfl,H0c _,fun _ _ _=>rfl⟩
theorem E7a (h:Ext w w'):But l w w':=⟨h.os,h.tape,h.output,h.size,fun k hk _=>h.block k hk⟩
theorem trans (h:But l a b) (k:But l b c):But l a c:=
 ⟨k.os.trans h.os,k.tape.trans h.tape,k.output.trans h.output,G5c h.size k.size,fun i hi hn=>(k.block i (x4b hi h.size) hn).trans (h.block i hi hn)⟩
theorem mono {l':List Nat} (h:But l w w') (hl:∀ x ∈ l,x ∈ l'):But l' w w':=⟨h.os,h.tape,h.output,h.size,fun i hi hn=>h.block i hi (fun hm=>hn (hl i hm))⟩
theorem ext (h:But l a w) (k:Ext w w'):But l a w':=h.trans (E7a k)
theorem setCell (h:But l a w) {p:Addr} (hp:p.block ∈ l \/ a.heap.size<=p.block) (u:Value):But l a (w.setCell p u):=
 ⟨h.os,h.tape,h.output,by simpa [World.setCell] using h.size,fun k hk hn=>by
  rw [Below.heap_setCell _ _ _ _ (by rintro rfl;rcases hp with hp | hp;exact hn hp;omega)];exact h.block k hk hn⟩
theorem setCells {g:Nat} (hg:g ∈ l \/ a.heap.size<=g):∀ (vs:List Value) (o:Nat) {w:World},But l a w->But l a (w.setCells g o vs)
 | [],_,_,h=>h
 | v :: r,o,_,h=>setCells hg r (o+1) (h.setCell (p:=⟨g,o,none⟩) hg v)
theorem setRow (h:But l a w) (hg:g ∈ l \/ a.heap.size<=g) (cs:Array Value):But l a (w.setRow g cs):=
 ⟨h.os,h.tape,h.output,by simpa [World.setRow] using h.size,fun k hk hn=>by
  rw [setRow_other _ _ _ _ (by rintro rfl;rcases hg with hp | hp;exact hn hp;omega)];exact h.block k hk hn⟩
theorem turned (h:But l a w) (k:w.mapTurned w' g) (hg:g ∈ l \/ a.heap.size<=g):But l a w':=by
 have q:=k.grown
 refine ⟨q.os.trans h.os,q.tape.trans h.tape,q.output.trans h.output,G5c h.size q.size,fun i hi hn=>?_⟩
 rw [q.block i (x4b hi h.size) (by simp;rintro rfl;rcases hg with hp | hp;exact hn hp;omega)]
 exact h.block i hi hn
theorem cell (h:But l w w') (hg:g < w.heap.size) (hn:g ∉ l) (o:Nat):w'.cell? ⟨g,o,none⟩=w.cell? ⟨g,o,none⟩:=by
 simp only [World.cell?,h.block g hg hn]
theorem frozen (h:But l w w') (hg:g < w.heap.size) (hn:g ∉ l) (o:Nat):w'.frozen? ⟨g,o,none⟩=w.frozen? ⟨g,o,none⟩:=by
 simp only [World.frozen?,h.block g hg hn]
theorem D3a (h0:Ext w0 w) (h:But l w w') (hl:∀ x ∈ l,w0.heap.size<=x):Ext w0 w':=
 ⟨h.os.trans h0.os,h.tape.trans h0.tape,h.output.trans h0.output,G5c h0.size h.size,fun k hk=>(h.block k (x4b hk h0.size) (fun hm=>by have:=hl k hm;omega)).trans (h0.block k hk)⟩
end But
def ints (l:List Int):List Value:=l.map (Value.int .i64)
theorem i1a (l:List Int):(ints l).length=l.length:=by simp [ints]
structure A3a (w:World) (g:Nat) (W:List Int):Prop where
 row:∃ slack:List Value,w.heap[g]? = some (.cells (ints W ++ slack).toArray 3 (0,0))
 wf:∀ x ∈ W,-9223372036854775808<=x/\x<=9223372036854775807
theorem Z4a {g:Nat} {t:TypeId}:∀ (vs:List Value) (o:Nat) (cur:List Value) (w:World),w.heap[g]? = some (.cells cur.toArray t (0,0))->o+vs.length<=cur.length ->
    (w.setCells g o vs).heap[g]? = some (.cells (splice cur o vs).toArray t (0,0))
  | [],o,cur,w,hg,_=>by simpa [World.setCells,splice] using hg
  | v :: r,o,cur,w,hg,hl=>by
   have hl':o+(r.length+1)<=cur.length:=by simpa using hl
   have h1:(w.setCell ⟨g,o,none⟩ v).heap[g]? = some (.cells (cur.set o v).toArray t (0,0)):=by
    rw [setCell_eq_setRow w g o cur.toArray t (0,0) v hg,setRow_heap w g _ _ t _ hg];simp
   have ih:=Z4a r (o+1) (cur.set o v) _ h1 (by simp;omega);rw [World.setCells,ih]
   congr 3
   have e:=list_seg_step cur o v r hl';unfold splice;rw [<- y1b,<- y1b,e];simp
namespace A3a
variable {w w':World} {g:Nat} {W W':List Int}
theorem lt (h:A3a w g W):g < w.heap.size:=by
 obtain ⟨s,hg⟩:=h.row
 exact (q4b.1 hg).1
theorem get (h:A3a w g W) (hx:Hp.rd W j=some x):w.cell? ⟨g,j,none⟩=some (.int .i64 x):=by
 obtain ⟨s,hg⟩:=h.row
 unfold Hp.rd at hx
 obtain ⟨hl,e⟩:=q5b.1 hx
 have h2:(ints W ++ s)[j]? = some (.int .i64 x):=by
  rw [q6b (by simpa [ints] using hl)];simp [ints,hx]
 simpa [World.cell?,hg] using h2
theorem froz (h:A3a w g W) (j:Nat):w.frozen? ⟨g,j,none⟩=false:=by
 obtain ⟨s,hg⟩:=h.row
 simp [World.frozen?,hg]
theorem bound (h:A3a w g W) (hx:Hp.rd W j=some x) : -9223372036854775808<=x/\x<=9223372036854775807:=h.wf x (u1b hx)
theorem F9a (h:A3a w g W) (e:w'.heap[g]? = w.heap[g]?):A3a w' g W:=⟨by rw [e];exact h.row,h.wf⟩
theorem but (h:A3a w g W) {l:List Nat} (k:But l w w') (hg:g ∉ l):A3a w' g W:=h.F9a (k.block g h.lt hg)
theorem ext (h:A3a w g W) (k:Ext w w'):A3a w' g W:=h.F9a (k.block g h.lt)
theorem set (h:A3a w g W) {v:Int} (hw:Hp.wr W j v=some W') (h1 : -9223372036854775808<=v) (h2:v<=9223372036854775807):A3a (w.setCell ⟨g,j,none⟩ (.int .i64 v)) g W':=by
 obtain ⟨s,hg⟩:=h.row
 unfold Hp.wr at hw
 split at hw
 case isFalse=>cases hw
 rename_i hl
 cases hw
 refine ⟨⟨s, ?_⟩,fun x hx=>?_⟩
 . rw [setCell_eq_setRow w g j _ _ _ _ hg,setRow_heap w g _ _ _ _ hg];simp [ints,hl,List.set_append_left,List.map_set]
 rcases List.mem_or_eq_of_mem_set hx with hx | rfl
 . exact h.wf x hx
 exact ⟨h1,h2⟩
theorem spliced (h:A3a w g W) {cs:List Int} (hw:Hp.lay W i cs=some W') (hc:∀ x ∈ cs,-9223372036854775808<=x/\x<=9223372036854775807)
    (hr:∀ cur:List Value,w.heap[g]? = some (.cells cur.toArray 3 (0,0))->i+cs.length<=cur.length->w'.heap[g]? = some (.cells (splice cur i (ints cs)).toArray 3 (0,0))):A3a w' g W':=by
  obtain ⟨s,hg⟩:=h.row;unfold Hp.lay at hw
  split at hw
  case isFalse=>cases hw
  rename_i hl
  cases hw
  refine ⟨⟨s, ?_⟩,fun x hx=>?_⟩
  . rw [hr _ hg (by simp [ints];omega)]
    congr 3
    simp only [splice,ints,C6c,C5c,List.map_take,List.map_drop];rw [List.take_append_of_le_length (by simp;omega),List.drop_append_of_le_length (by simp;omega)];simp
  simp only [C4c] at hx
  rcases hx with hx | hx | hx
  . exact h.wf x (u4b hx)
  . exact hc x hx
  exact h.wf x (u5b hx)
theorem clear (h:A3a w g W) (hw:Hp.zero W i n=some W'):A3a (w.setCells g i (List.replicate n (.int .i64 0))) g W':=by
 refine h.spliced (i:=i) (cs:=List.replicate n 0) ?_ ?_ ?_
 . unfold Hp.lay;unfold Hp.zero at hw
   simpa using hw
 . intro x hx;rw [r4b hx];omega
 intro cur hg hl
 rw [show ints (List.replicate n 0)=List.replicate n (.int .i64 0) by simp [ints]]
 exact Z4a _ i cur w hg (by simpa using hl)
end A3a
def mapOf (T:List Nat):DataW Unit:=.map (T.map fun k:Nat=>(Lit.int .i64 (k:Int),DataW.lit (.bool true)))
def H9a (T:List Nat):Lit->Bool
 | .int .i64 k=>decide (0<=k) && T.contains k.toNat
 | _=>false
open Go.Maps in
theorem L2a (T:List Nat) (k:Lit):Maps.has (mapOf T) k=H9a T k:=by
 unfold mapOf
 rw [has_eq]
 induction T with
 | nil => cases k <;> try rfl
          case int q a=>cases q <;> simp [H9a]
 | cons a r ih=>
  rw [E7c,List.any_cons,ih]
  cases k
  case int q b=>
   cases q <;> simp [Lit.sameKey,H9a]
   by_cases hb:0<=b
   . simp [hb]
     by_cases e:(a:Int)=b
     . subst e;simp
     have:¬ b.toNat=a:=by omega
     simp [e,this]
   have:¬ (a:Int)=b:=by omega
   simp [hb,this]
  all_goals simp [Lit.sameKey,H9a]
theorem J0a {k:Lit} (h:H9a T k=true) (z:DataW Unit):(mapOf T).atKey k z = .lit (.bool true):=by
 rw [<- L2a] at h
 unfold mapOf at h ⊢
 rw [Maps.has_eq] at h
 unfold DataW.atKey
 simp only
 cases hf:(T.map fun k:Nat=>(Lit.int .i64 (k:Int),(DataW.lit (.bool true):DataW Unit))).find? (fun p=>p.1.sameKey k) with
 | none=>
  rw [w4b] at hf;rw [B2c] at h;obtain ⟨p,hp,hk⟩:=h;exact absurd hk (hf p hp)
 | some p=>
  obtain ⟨n,_,rfl⟩:=F7c.1 (List.mem_of_find?_eq_some hf);rfl
theorem P3a {k:Lit} (h:H9a T k=false) (z:DataW Unit):(mapOf T).atKey k z=z:=
 Maps.atKey_of_not_has (by rw [L2a];exact h) z
theorem M8a (T:List Nat):Maps.size (mapOf T)=T.length:=by simp [mapOf,Maps.size_eq]
theorem h9a (h:T.Pairwise (· < ·)):Maps.Canon (mapOf T):=by
 refine ⟨_,rfl, ?_, ?_⟩
 . rw [y9b];exact h.imp (fun {a b} hab=>by simpa [Lit.before] using hab)
 intro p hp
 obtain ⟨k,_,rfl⟩:=F7c.1 hp
 trivial
open Go.RowKit Go.Maps
theorem D6a (a x:Nat):∀ T:List Nat,x ∈ Hp.Hs.insert a T ↔ x=a \/ x ∈ T
 | []=>by simp [Hp.Hs.insert]
 | y :: r=>by
  unfold Hp.Hs.insert
  split
  . simp
  split
  . rename_i h;subst h;simp
  rw [E6c,D6a a x r,E6c];constructor
  . rintro (h | h | h) <;> simp [h]
  rintro (h | h | h) <;> simp [h]
theorem V6a (a:Nat):∀ {T:List Nat},T.Pairwise (· < ·)->(Hp.Hs.insert a T).Pairwise (· < ·)
 | [],_=>by simp [Hp.Hs.insert]
 | y :: r,h=>by
  obtain ⟨h1,h2⟩:=w3b.1 h;unfold Hp.Hs.insert
  split
  . rename_i hl;refine w3b.2 ⟨fun q hq=>?_,h⟩
    rcases E6c.1 hq with rfl | hq
    . exact hl
    exact Nat.lt_trans hl (h1 q hq)
  split
  . exact h
  refine w3b.2 ⟨fun q hq=>?_,V6a a h2⟩
  rcases (D6a a q r).1 hq with rfl | hq
  . omega
  exact h1 q hq
theorem H1a (T:List Nat) (k:Lit):H9a T k=true ↔ ∃ n:Nat,n ∈ T/\k = .int .i64 n:=by
 constructor
 . intro h;unfold H9a at h
   split at h
   . rename_i b;simp at h;exact ⟨b.toNat,h.2,by rw [Int.toNat_of_nonneg h.1]⟩
   cases h
 rintro ⟨n,hn,rfl⟩
 simp [H9a,hn]
theorem K6a (T:List Nat) (n:Nat):H9a T (.int .i64 n)=T.contains n:=by simp [H9a]
theorem p5a {a b:Bool} (h:a=true ↔ b=true):a=b:=by cases a <;> cases b <;> simp_all
theorem X3b (hs:T.Pairwise (· < ·)) (a:Nat) (hc:Canon ((mapOf T).put (.int .i64 a) (.lit (.bool true)))):(mapOf T).put (.int .i64 a) (.lit (.bool true))=mapOf (Hp.Hs.insert a T):=by
 have key:∀ k,Maps.has ((mapOf T).put (.int .i64 a) (.lit (.bool true))) k=H9a (Hp.Hs.insert a T) k:=by
  intro k;apply p5a;rw [H1a]
  by_cases e:k = .int .i64 a
  . subst e;rw [has_put_same (D:=mapOf T) (k:=.int .i64 (a:Int)) ⟨_,rfl⟩ (by exact True.intro)];simp only [true_iff];exact ⟨a,(D6a a a T).2 (Or.inl rfl),rfl⟩
  rw [has_put_other e,L2a,H1a];constructor
  . rintro ⟨n,hn,rfl⟩;exact ⟨n,(D6a a n T).2 (Or.inr hn),rfl⟩
  rintro ⟨n,hn,rfl⟩
  rcases (D6a a n T).1 hn with rfl | hn
  . exact absurd rfl e
  exact ⟨n,hn,rfl⟩
 refine Maps.ext hc (h9a (V6a a hs)) (fun k=>by rw [key,L2a]) (fun k z hk=>?_)
 rw [key] at hk
 rw [J0a hk]
 by_cases e:k = .int .i64 a
 . subst e;exact atKey_put_same (k:=.int .i64 (a:Int)) ⟨_,rfl⟩ (by exact True.intro) _ _
 rw [atKey_put_other e]
 refine J0a ?_ z
 rw [H1a] at hk ⊢
 obtain ⟨n,hn,rfl⟩:=hk
 rcases (D6a a n T).1 hn with rfl | hn
 . exact absurd rfl e
 exact ⟨n,hn,rfl⟩
theorem T9b (hs:T.Pairwise (· < ·)) (a:Nat) (hc:Canon ((mapOf T).del (.int .i64 a))):(mapOf T).del (.int .i64 a)=mapOf (T.erase a):=by
 have nd:T.Nodup:=hs.imp (fun h=>Nat.ne_of_lt h)
 have key:∀ k,Maps.has ((mapOf T).del (.int .i64 a)) k=H9a (T.erase a) k:=by
  intro k;apply p5a;rw [H1a]
  by_cases e:k = .int .i64 a
  . subst e;rw [has_del_same];simp only [x6b,false_iff];rintro ⟨n,hn,h⟩;have:a=n:=by simp at h;omega
    subst this;exact (nd.mem_erase_iff.1 hn).1 rfl
  rw [has_del_other e,L2a,H1a];constructor
  . rintro ⟨n,hn,rfl⟩;exact ⟨n,nd.mem_erase_iff.2 ⟨fun h=>e (by rw [h]),hn⟩,rfl⟩
  rintro ⟨n,hn,rfl⟩;exact ⟨n,(nd.mem_erase_iff.1 hn).2,rfl⟩
 refine Maps.ext hc (h9a (hs.sublist List.erase_sublist)) (fun k=>by rw [key,L2a]) (fun k z hk=>?_)
 rw [key] at hk
 rw [J0a hk]
 have e:k ≠ .int .i64 a:=by
  rintro rfl;rw [H1a] at hk;obtain ⟨n,hn,h⟩:=hk;have:a=n:=by simp at h;omega
  subst this;exact (nd.mem_erase_iff.1 hn).1 rfl
 rw [atKey_del_other e]
 refine J0a ?_ z
 rw [H1a] at hk ⊢
 obtain ⟨n,hn,rfl⟩:=hk
 exact ⟨n,(nd.mem_erase_iff.1 hn).2,rfl⟩
theorem J1a {P:Program} {e:TypeId} (he:P.underlying e=some .bool) {v:Value} {x:Bool} {ps:List MemPlace} (h:plainElem (H:=Unit) P e v=some (.lit (.bool x),ps)):v = .bool x:=by
 unfold plainElem at h
 rw [he] at h
 cases v <;> simp at h
 rw [h.1]
structure MapAt (P:Program) (w:World) (g:Nat) (T:List Nat):Prop where
 owns:w.ownsMap P 3 (plainElem (H:=Unit) P 4) g T.length (mapOf T)
 sorted:T.Pairwise (· < ·)
namespace MapAt
variable {P:Program} {w w':World} {g:Nat} {T:List Nat}
theorem lt (h:MapAt P w g T):g < w.heap.size:=h.owns.lt
theorem F9a (h:MapAt P w g T) (e:w'.heap[g]? = w.heap[g]?):MapAt P w' g T:=by
 refine ⟨?_,h.sorted⟩
 obtain ⟨es,clock,hb,r⟩:=h.owns
 exact ⟨es,clock,e.trans hb,r⟩
theorem but (h:MapAt P w g T) {l:List Nat} (k:But l w w') (hg:g ∉ l):MapAt P w' g T:=h.F9a (k.block g h.lt hg)
theorem ext (h:MapAt P w g T) (k:Ext w w'):MapAt P w' g T:=h.F9a (k.block g h.lt)
theorem tight (h:w.ownsMap P 3 (plainElem (H:=Unit) P 4) g n (mapOf T)):w.ownsMap P 3 (plainElem (H:=Unit) P 4) g T.length (mapOf T):=by
 obtain ⟨es,clock,hb,F,hs,hD⟩:=h
 refine ⟨es,clock,hb,F, ?_,hD⟩
 have e:=M8a T
 rw [hD] at e
 simp [Maps.size,length_sorted] at e
 omega
variable {t:TypeId}
theorem look (h:MapAt P w g T) (hk:P.underlying 3=some (.int .i64)) (he:P.underlying 4=some .bool) (ht:P.underlying t=some (.map 3 4)) (hz:(zeroValue 4).run P w = .ok (.bool false) w)
    {x:Int} (h1 : -9223372036854775808<=x) (h2:x<=9223372036854775807):(Instr.lookup t (.map (some g)) (.int .i64 x) false).run P w = .ok (.bool (H9a T (.int .i64 x))) w:=by
  have wf:(Lit.int .i64 x).wf=true:=WalkArith.wf_i64 (by omega);obtain ⟨v,ps,hrun,hv⟩:=h.owns.lookup (int_keyed hk) ht hz (plainElem_bool he false) (keyOf_int_mk hk wf);rw [hrun]
  cases hh:H9a T (.int .i64 x)
  . rw [P3a hh] at hv;rw [J1a he hv]
  rw [J0a hh] at hv;rw [J1a he hv]
theorem put (h:MapAt P w g T) (hk:P.underlying 3=some (.int .i64)) (he:P.underlying 4=some .bool) (ht:P.underlying t=some (.map 3 4)) (hn:T.length < maxLen) (ha:(a:Int)<=9223372036854775807) :
    ∃ w',(Instr.mapUpdate t (.map (some g)) (.int .i64 a) (.bool true)).run P w = .ok () w'/\MapAt P w' g (Hp.Hs.insert a T)/\w.mapTurned w' g:=by
  have wf:(Lit.int .i64 a).wf=true:=WalkArith.wf_i64 (by omega);obtain ⟨w',hrun,ho,ht'⟩:=h.owns.store (int_keyed hk) ht hn (keyOf_int_mk hk wf) (plainElem_bool he true);refine ⟨w',hrun, ?_,ht'⟩;have hc:=ho.canon (int_keyed hk);rw [X3b h.sorted a hc] at ho;exact ⟨tight ho,V6a a h.sorted⟩
theorem del (h:MapAt P w g T) (hk:P.underlying 3=some (.int .i64)) (ht:P.underlying t=some (.map 3 4)) (ha:(a:Int)<=9223372036854775807) (ty:TypeId) :
    ∃ w',(Builtin.delete_ #[t,3] ty #[.map (some g),.int .i64 a]).run P w = .ok (.tuple #[]) w'/\MapAt P w' g (T.erase a)/\w.mapTurned w' g:=by
  have wf:(Lit.int .i64 a).wf=true:=WalkArith.wf_i64 (by omega);obtain ⟨w',hrun,ho,ht'⟩:=h.owns.drop (int_keyed hk) ht (keyOf_int_mk hk wf) ty;refine ⟨w',hrun, ?_,ht'⟩;have hc:=ho.canon (int_keyed hk);rw [T9b h.sorted a hc] at ho;exact ⟨tight ho,h.sorted.sublist List.erase_sublist⟩
theorem len (h:MapAt P w g T) (ht:P.underlying t=some (.map 3 4)) (ty:TypeId):(Builtin.len_ #[t] ty #[.map (some g)]).run P w = .ok (.int .i64 T.length) w:=by
 rw [h.owns.len ht ty,M8a]
end MapAt
open Go.RowKit
theorem E5a (a b n:Int) (w:World):Calls prog 105 #[.int .i64 a,.int .i64 b,.int .i64 n] w (Rt w (.bool (Hp.within a b n))):=by
 by_cases h1:a<=n
 . by_cases h2:n<=b
   . have e:Hp.within a b n=true:=by simp [Hp.within,h1,h2]
     rw [e];clear e;go_enter func105,ntmps105;go_wp2
     all_goals go_returns
     exact ⟨rfl,exx⟩
   have e:Hp.within a b n=false:=by simp [Hp.within,h2]
   rw [e];clear e;go_enter func105,ntmps105;go_wp2
   all_goals go_returns
   exact ⟨rfl,exx⟩
 have e:Hp.within a b n=false:=by simp [Hp.within,h1]
 rw [e]
 clear e
 go_enter func105,ntmps105
 go_wp2
 all_goals go_returns
 exact ⟨rfl,exx⟩
theorem X9b (t:Int) (w:World):Calls prog 78 #[.int .i64 t] w (Rt w (.bool (Hp.B1a t))):=by
 go_enter func78,ntmps78
 go_wp2_with (go_at_call 105;refine (E5a 20 24 t _).mono ?_;rintro e x ⟨rfl,y⟩)
 go_returns
 exact ⟨rfl,y⟩
theorem H4a {b:Bool} (h:Hp.B1a t=b) (w:World):Calls prog 78 #[.int .i64 t] w (Rt w (.bool b)):=by
 subst h
 exact X9b t w
theorem F4a {hb gw:Nat} (c2:w.cell? ⟨hb,2,none⟩=some (.slice (some ⟨gw,0,none⟩) n cap)) (hn:n=W.length) (hc:n<=cap) (hb':cap<=9223372036854775807) (hW:A3a w gw W) (hx:Hp.rd W a=some x) :
    Calls prog 76 #[.pointer (some ⟨hb,0,none⟩),.int .i64 a] w (Rt w (.int .i64 x)):=by
  have g:=hW.get hx;have ha:a < n:=by
   unfold Hp.rd at hx;have:=(q5b.1 hx).1;omega
  clear hW hx hn;go_enter func76,ntmps76;go_wp2;go_returns;exact ⟨rfl,exx⟩
structure SliceAt (w:World) (p:Option Addr) (c:Nat) (l:List Int):Prop where
 le:l.length<=c
 cap:c<=9223372036854775807
 wf:∀ x ∈ l,-9223372036854775808<=x/\x<=9223372036854775807
 cells:0 < l.length -> ∃ b o,p=some ⟨b,o,none⟩/\b < w.heap.size /\ ∀ j x,Hp.rd l j=some x->w.cell? ⟨b,o+j,none⟩=some (.int .i64 x)
theorem G0a (h:Hp.rd l j=some x):j < l.length:=by
 unfold Hp.rd at h
 exact (q5b.1 h).1
theorem Z8a (h:Hp.adr x=some n):x=n:=by
 unfold Hp.adr at h
 split at h
 . cases h;omega
 cases h
theorem C6a (h:Hp.ra l i=some n):Hp.rd l i=some (n:Int):=by
 unfold Hp.ra at h
 obtain ⟨x,hx,h⟩:=s0b.1 h
 rw [hx,Z8a h]
theorem a5a {sizes:List Int} (h:Hp.wide sizes t=some k):(Hp.B1a t=true/\k=5) \/ (Hp.B1a t=false /\ ∃ i s:Nat,t=(i:Int)+1/\Hp.rd sizes i=some (s:Int)/\k=4+s):=by
 unfold Hp.wide at h
 cases he:Hp.B1a t
 . right;rw [he] at h;simp only [x6b,H1c] at h;obtain ⟨i,hi,h⟩:=s0b.1 h;obtain ⟨s,hs,h⟩:=s0b.1 h;have hi:=Z8a hi;exact ⟨rfl,i,s,by omega,C6a hs,by simpa using h.symm⟩
 left
 rw [he] at h
 simpa using h.symm
theorem m1a (p q:Option Addr) (n c m d:Nat) (t:Int) (w:World):Calls prog 122 #[.agg #[.slice p n c,.slice q m d],.int .i64 t] w (Rt w (.bool (Hp.within 1 n t))):=by
 go_enter func122,ntmps122
 go_wp2_with (go_at_call 105;refine (E5a 1 n t _).mono ?_;rintro e x ⟨rfl,y⟩)
 go_returns
 exact ⟨rfl,exx⟩
theorem V7a {d:Nat} {sizes:List Int} (hS:SliceAt w p c sizes) (hk:Hp.wide sizes t=some k) (hb:k<=9223372036854775807) :
    Calls prog 123 #[.agg #[.slice p sizes.length c,.slice q m d],.int .i64 t] w (Rt w (.int .i64 k)):=by
  rcases a5a hk with ⟨he,rfl⟩ | ⟨he,i,s,rfl,hs,rfl⟩
  . clear hS hk;go_enter func123,ntmps123
    go_wp2_with (go_at_call 78;refine (H4a he _).mono ?_;rintro e x ⟨rfl,y⟩)
    refine bodyPost_ret (v:=.int .i64 5) (by simp [results,results123,go_sem, *]) rfl ⟨rfl,exx⟩
  have hi:=G0a hs;obtain ⟨b,o,rfl,hlt,hc⟩:=hS.cells (by omega);have g:=hc i s hs;have h1:=hS.le;have h2:=hS.cap;clear hS hc hk hs;generalize sizes.length=n at *;go_enter func123,ntmps123
  go_wp2_with (go_at_call 78;refine m4_ (H4a he _) fun w1 hb1 hc1 hf1 hs1=>?_;obtain ⟨hz1_0,hc1_0,hf1_0⟩:=c3_ hb1 w.heap.size;have y0:Ext w w1:=exx;have g':=y0.q g)
  refine bodyPost_ret (v:=.int .i64 (4+s:Nat)) (by simp [results,results123,go_sem, *]) rfl ⟨rfl,exx⟩
structure Hd where
 hb:Nat
 gw:Nat
 gm:Nat
 cap:Nat
 sp:Option Addr
 sc:Nat
 op:Option Addr
 oc:Nat
def Hd.own (d:Hd):List Nat:=[d.hb,d.gw,d.gm]
theorem cell_lt {o:Nat} {v:Value} (h:w.cell? ⟨b,o,none⟩=some v):b < w.heap.size:=by
 rcases G3c b w.heap.size with h' | h'
 . exact h'
 simp [World.cell?,s7b h'] at h
namespace SliceAt
variable {w w':World} {p:Option Addr} {c:Nat} {l:List Int}
theorem but (h:SliceAt w p c l) {bs:List Nat} (k:But bs w w') (hf:∀ b o,p=some ⟨b,o,none⟩->b ∉ bs):SliceAt w' p c l:=by
 refine ⟨h.le,h.cap,h.wf,fun h0=>?_⟩
 obtain ⟨b,o,rfl,hb,hc⟩:=h.cells h0
 exact ⟨b,o,rfl,x4b hb k.size,fun j x hx=>(k.cell hb (hf b o rfl) _).trans (hc j x hx)⟩
theorem ext (h:SliceAt w p c l) (k:Ext w w'):SliceAt w' p c l:=h.but (But.E7a (l:=[]) k) (by simp)
end SliceAt
structure HAt (w:World) (d:Hd) (S:Hp.Hs):Prop where
 c0:w.cell? ⟨d.hb,0,none⟩=some (.slice d.sp S.sizes.length d.sc)
 c1:w.cell? ⟨d.hb,1,none⟩=some (.slice d.op S.order.length d.oc)
 c2:w.cell? ⟨d.hb,2,none⟩=some (.slice (some ⟨d.gw,0,none⟩) S.words.length d.cap)
 c3:w.cell? ⟨d.hb,3,none⟩=some (.map (some d.gm))
 f2:w.frozen? ⟨d.hb,2,none⟩=false
 sizes:SliceAt w d.sp d.sc S.sizes
 order:SliceAt w d.op d.oc S.order
 words:A3a w d.gw S.words
 le:S.words.length<=d.cap
 cap:d.cap<=9223372036854775807
 map:MapAt prog w d.gm S.taken
 below:∀ a ∈ S.taken,a < S.words.length
 apart1:d.hb ≠ d.gw
 apart2:d.hb ≠ d.gm
 apart3:d.gw ≠ d.gm
 far1:∀ b o,d.sp=some ⟨b,o,none⟩->b ∉ d.own
 far2:∀ b o,d.op=some ⟨b,o,none⟩->b ∉ d.own
 pos:∀ s ∈ S.sizes,1<=s/\s<=12
 small:S.words.length<=1000000
 few:S.sizes.length<=6
 old1:∀ b o,d.sp=some ⟨b,o,none⟩->b < w.heap.size
 old2:∀ b o,d.op=some ⟨b,o,none⟩->b < w.heap.size
namespace HAt
variable {w w':World} {d:Hd} {S:Hp.Hs}
theorem lt (h:HAt w d S):d.hb < w.heap.size:=cell_lt h.c0
theorem ext (h:HAt w d S) (k:Ext w w'):HAt w' d S:=
 { h with
   c0:=k.q h.c0
   c1:=k.q h.c1
   c2:=k.q h.c2
   c3:=k.q h.c3
   f2:=(k.frozen h.lt 2).trans h.f2
   sizes:=h.sizes.ext k
   order:=h.order.ext k
   words:=h.words.ext k
   map:=h.map.ext k
   old1:=fun b o e=>x4b (h.old1 b o e) k.le
   old2:=fun b o e=>x4b (h.old2 b o e) k.le }
theorem a1a (h:HAt w d S):S.taken.length<=S.words.length:=by
 have:=h.map.sorted
 have hb:=h.below
 generalize S.words.length=n at hb
 generalize S.taken=T at this hb
 have key:∀ (m:Nat) (T:List Nat),T.Pairwise (· < ·)->(∀ a ∈ T,m<=a/\a < n)->T.length+m<=n \/ T=[]:=by
  intro m T
  induction T generalizing m with
  | nil=>intro _ _;exact Or.inr rfl
  | cons a r ih=>
   intro hp hr;obtain ⟨h1,h2⟩:=w3b.1 hp;have ha:=hr a (by simp);left
   rcases ih (a+1) h2 (fun b hb=>⟨h1 b hb,(hr b (by simp [hb])).2⟩) with h | h
   . simp;omega
   subst h;simp;omega
 rcases key 0 T this (fun a ha=>⟨G9c _,hb a ha⟩) with h | h
 . omega
 subst h;simp
theorem set (h:HAt w d S) {v:Int} (hw:Hp.wr S.words j v=some W) (h1 : -9223372036854775808<=v) (h2:v<=9223372036854775807):HAt (w.setCell ⟨d.gw,j,none⟩ (.int .i64 v)) d { S with words:=W }:=by
 have hl:W.length=S.words.length:=by
  unfold Hp.wr at hw
  split at hw
  . cases hw;simp
  cases hw
 have k:But [d.gw] w (w.setCell ⟨d.gw,j,none⟩ (.int .i64 v)):=(But.refl _ _).setCell (by simp) _
 have n1:d.hb ∉ [d.gw]:=by simp [h.apart1]
 have n2:d.gm ∉ [d.gw]:=by simp [h.apart3.symm]
 exact
 { c0:=(k.cell h.lt n1 0).trans h.c0
   c1:=(k.cell h.lt n1 1).trans h.c1
   c2:=by rw [k.cell h.lt n1 2,h.c2,hl]
   c3:=(k.cell h.lt n1 3).trans h.c3
   f2:=(k.frozen h.lt n1 2).trans h.f2
   sizes:=h.sizes.but k (fun b o e hm=>h.far1 b o e (by simp [Hd.own] at hm ⊢;simp [hm]))
   order:=h.order.but k (fun b o e hm=>h.far2 b o e (by simp [Hd.own] at hm ⊢;simp [hm]))
   words:=h.words.set hw h1 h2
   le:=by rw [hl];exact h.le
   cap:=h.cap
   map:=h.map.but k n2
   below:=by rw [hl];exact h.below
   apart1:=h.apart1
   apart2:=h.apart2
   apart3:=h.apart3
   far1:=h.far1
   far2:=h.far2
   pos:=h.pos
   small:=by rw [hl];exact h.small
   few:=h.few
   old1:=fun b o e=>x4b (h.old1 b o e) k.size
   old2:=fun b o e=>x4b (h.old2 b o e) k.size }
end HAt
open Go
section
variable {P:Program} {ops:Array Oper} {Q:Exit->Act->World->Prop} {md:Region.Mode} {S:World->Prop} {R:World->World->Prop}
theorem K3b {oj:Oper} (hj:ops[j]? = some oj) {K:Act->World->Prop} {a:Act} (h:wpOp P ops Q j K a w) :
    wpOp P ops Q j (fun a' w'=>(∃ (u:Value) (d:List Deferred),a'=({ a with defers:=d }:Act).put oj.dst u)/\K a' w') a w:=by
  unfold wpOp at h ⊢;rw [hj] at h ⊢;simp only at h ⊢
  split
  . next hw=>
    rw [H5c hw] at h
    rcases h with h | h
    . refine .inl ?_;unfold Oper.wp at h ⊢;generalize (execOp a.eval oj).run P w=r at h ⊢
      match r with
      | .ok (.value v) w'=>exact ⟨⟨v,a.defers,rfl⟩,h⟩
      | .ok .skip w'=>exact ⟨⟨undef,a.defers,rfl⟩,h⟩
      | .ok (.defer d) w'=>exact ⟨⟨undef,d :: a.defers,rfl⟩,h⟩
      | .ok (.enter f args) w'=>
       refine Calls.mono h fun e w'' he=>?_
       cases e with
       | returned u=>exact ⟨⟨u,a.defers,rfl⟩,he⟩
       | panicked c=>exact he
       | outgrown=>exact he
      | .ok (.row row args) w'=>exact Rows.mono h fun u w'' he=>⟨⟨u,a.defers,rfl⟩,he⟩
      | .halt x w'=>cases x <;> exact h
    exact .inr h
  next hw=>
  rw [H4c hw] at h;exact ⟨⟨undef,a.defers,rfl⟩,h⟩
def F1a (P:Program) (ops:Array Oper) (S:World->Prop) (R:World->World->Prop) (o:Oper) (v:Value) (a:Act):Prop:=
 YieldsIf P ops S o v a \/ (Region.wanted o (yielded ops a.tmps)=true /\ ∃ (f:FuncId) (args:Array Value),(∀ w,S w->(execOp a.eval o).run P w = .ok (.enter f args) w) /\
  ∀ w,S w->Calls P f args w fun e w'=>e = .returned v/\R w w'/\S w')
theorem F1a.of_same {o:Oper} {v:Value} {a a':Act} (hy:F1a P ops S R o v a) (he:execOp a'.eval o=execOp a.eval o)
    (hw:Region.wanted o (yielded ops a'.tmps)=Region.wanted o (yielded ops a.tmps)):F1a P ops S R o v a':=by
  rcases hy with hy | hy
  . exact .inl (hy.of_same he hw)
  refine .inr ?_;rw [he,hw];exact hy
theorem F1a.wpOp {i:Nat} {o:Oper} {v:Value} {a:Act} (hi:ops[i]? = some o) (hy:F1a P ops S R o v a) (hR:∀ w,R w w)
    {K:Act->World->Prop} {w:World} (hS:S w) (h:∀ w',R w w'->S w'->K (a.put o.dst v) w'):wpOp P ops Q i K a w:=by
  rcases hy with hy | ⟨hw,f,args,he,hc⟩
  . exact hy.wpOp hi hS (h w (hR w) hS)
  unfold Go.wpOp;simp only [hi];rw [H5c hw];refine .inl ?_;unfold Oper.wp;rw [he w hS];refine (hc w hS).mono ?_;rintro e w' ⟨rfl,h1,h2⟩;exact h w' h1 h2
theorem m9a {oi oj:Oper} {v:Value} (hj:ops[j]? = some oj) (hap:oi.apart ops oj=true)
    (hsi:∀ cs b,oi.op ≠ .select cs b) (hsj:∀ cs b,oj.op ≠ .select cs b)
    (hQ:∀ c a w,Q (.panic c) (a.put oi.dst v) w->Q (.panic c) a w) {K:Act->World->Prop} {a:Act} {w:World}
    (hy:F1a P ops S R oi v a) (h:wpOp P ops Q j K (a.put oi.dst v) w) :
    wpOp P ops Q j (fun a' w'=>F1a P ops S R oi v a'/\K (a'.put oi.dst v) w') a w:=by
  have hy':YieldsIf P ops (fun _=>False) oi v a:=by
   rcases hy with hy | ⟨hw,-⟩
   . rcases hy with ⟨hw,-⟩ | hy
     . exact .inl ⟨hw,fun _ hf=>hf.elim⟩
     exact .inr hy
   exact .inl ⟨hw,fun _ hf=>hf.elim⟩
  obtain ⟨-,-,h3⟩:=Oper.apart_spec hap;refine wpOp_mono ?_ (K3b hj (wpOp_putIf hj hap hsi hsj hQ hy' h));rintro a' w' ⟨⟨u,d,rfl⟩,-,hk⟩;refine ⟨?_,hk⟩;have h4:F1a P ops S R oi v ({ a with defers:=d }:Act):=hy.of_same rfl rfl;exact h4.of_same (execOp_put oi hsi _ oj.dst u h3) (wanted_put oi _ oj.dst u h3)
def B7a (P:Program) (md:Region.Mode) (ops:Array Oper) (Q:Exit->Act->World->Prop) (S:World->Prop) (R:World->World->Prop):Nat->Array Bool->Act->World->Prop
 | 0,listed,a,w=>Region.ready md ops listed=[] /\ ∀ w',R w w'->S w'->Q .normal a w'
 | fuel+1,listed,a,w=>∀ w',R w w'->S w'->(Region.ready md ops listed=[]->Q .normal a w') /\
     ∀ i ∈ Region.ready md ops listed,wpOp P ops Q i (fun a' w''=>S w''/\B7a P md ops Q S R fuel (listed.setIfInBounds i true) a' w'') a w'
theorem B7a.mono (hT:∀ a b c,R a b->R b c->R a c):∀ {fuel:Nat} {listed:Array Bool} {a:Act} {w w1:World},R w w1->B7a P md ops Q S R fuel listed a w->B7a P md ops Q S R fuel listed a w1
 | 0,_,_,_,_,hr,h=>⟨h.1,fun w' r s=>h.2 w' (hT _ _ _ hr r) s⟩
 | _+1,_,_,_,_,hr,h=>fun w' r s=>h w' (hT _ _ _ hr r) s
theorem o7a (hR:∀ w,R w w):∀ (fuel:Nat) (listed:Array Bool) (a:Act) (w:World),S w->B7a P md ops Q S R fuel listed a w->wpAny P md ops Q fuel listed a w
 | 0,_,_,w,hS,h=>⟨h.1,h.2 w (hR w) hS⟩
 | _+1,_,_,w,hS,h=>⟨(h w (hR w) hS).1,fun i hi=>wpOp_mono (fun a' w' h'=>o7a hR _ _ a' w' h'.1 h'.2) ((h w (hR w) hS).2 i hi)⟩
theorem U3a {oi:Oper} {v:Value} (hR:∀ w,R w w) (hT:∀ a b c,R a b->R b c->R a c) (hi:ops[i]? = some oi) (hsel:∀ (j:Nat) (o:Oper) cs b,ops[j]? = some o->o.op ≠ .select cs b)
    (hQ:∀ c a w,Q (.panic c) (a.put oi.dst v) w->Q (.panic c) a w) :
    ∀ (fuel:Nat) (listed:Array Bool) (a:Act) (w:World),
     (∀ j oj,ops[j]? = some oj->j ≠ i->listed.getD j true=false->(∀ e ∈ oj.after,Region.binds md e=true->e.on ≠ i)->oi.apart ops oj=true) ->
     i ∈ Region.ready md ops listed->F1a P ops S R oi v a ->
     B7a P md ops Q S R fuel (listed.setIfInBounds i true) (a.put oi.dst v) w->B7a P md ops Q S R (fuel+1) listed a w:=by
  intro fuel
  induction fuel with
  | zero=>
   intro listed a w _ hr hy H w' r s;refine ⟨fun h=>(by rw [h] at hr;cases hr),fun j hj=>?_⟩
   by_cases hji:j=i
   . subst hji;exact hy.wpOp hi hR s fun w'' r' s'=>⟨s',B7a.mono hT (hT _ _ _ r r') H⟩
   have:=ready_mono hj hji;rw [H.1] at this
   cases this
  | succ fuel ih=>
   intro listed a w hfree hr hy H w' r s;refine ⟨fun h=>(by rw [h] at hr;cases hr),fun j hj=>?_⟩
   by_cases hji:j=i
   . subst hji;exact hy.wpOp hi hR s fun w'' r' s'=>⟨s',B7a.mono hT (hT _ _ _ r r') H⟩
   have h1:=(H w' r s).2 j (ready_mono hj hji);obtain ⟨hjun,oj,hoj,hall⟩:=mem_ready.1 hj;have hun:listed.getD i true=false:=(mem_ready.1 hr).1;have hnot:∀ e ∈ oj.after,Region.binds md e=true->e.on ≠ i:=by
    intro e he hb heq;have h2:=hall e he hb;rw [heq] at h2
    by_cases hl:i < listed.size
    . simp only [Array.getD,hl,H3c] at hun h2;rw [hun] at h2;cases h2
    simp only [Array.getD,hl,dif_neg,not_false_eq_true] at h2;cases h2
   have h2:=m9a hoj (hfree j oj hoj hji hjun hnot) (fun cs b=>hsel i oi cs b hi) (fun cs b=>hsel j oj cs b hoj) hQ hy h1;refine wpOp_mono ?_ h2;rintro a' w'' ⟨hy',hs',hk⟩;refine ⟨hs',ih (listed.setIfInBounds j true) a' w'' ?_ (ready_mono hr (Ne.symm hji)) hy' ?_⟩
   . intro k ok hk hki hu hno;refine hfree k ok hk hki ?_ hno
     by_cases hjk:j=k
     . subst hjk;exact hjun
     rw [getD_set_ne true hjk] at hu;exact hu
   rw [Array.setIfInBounds_comm _ _ hji];exact hk
theorem F8a {oi:Oper} {v:Value} {fuel:Nat} {listed:Array Bool} {a:Act} (hR:∀ w,R w w) (hT:∀ a b c,R a b->R b c->R a c) (hi:ops[i]? = some oi)
    (hs:Region.noSelect ops=true) (hf:Region.free md ops listed i=true) (hr:(Region.ready md ops listed).contains i=true)
    (hQ:∀ c a w,Q (.panic c) (a.put oi.dst v) w->Q (.panic c) a w) (hy:F1a P ops S R oi v a)
    (h:B7a P md ops Q S R fuel (listed.setIfInBounds i true) (a.put oi.dst v) w):B7a P md ops Q S R (fuel+1) listed a w:=
  U3a hR hT hi (Region.noSelect_spec hs) hQ fuel listed a w (Region.free_spec hi hf) (by simpa using hr) hy h
theorem A0a {listed:Array Bool} {a:Act} (hr:Region.ready md ops listed=[]) (h:∀ w',R w w'->S w'->Q .normal a w'):∀ fuel,B7a P md ops Q S R fuel listed a w
 | 0=>⟨hr,h⟩
 | _+1=>fun w' r s=>⟨fun _=>h w' r s,by rw [hr];simp⟩
theorem D4a {id:Nat} {a:Act} (hm:P.follows .mixedOrders=true) (hR:∀ w,R w w) (hS:S w.drew)
    (h:B7a P .any ops Q S R ops.size (Array.replicate ops.size false) a w.drew):(Code.region id ops true).wp P Q a w:=
  wp_region_any hm (o7a hR _ _ _ _ hS h)
end
section
variable {P:Program} {ops:Array Oper} {Q:Exit->Act->World->Prop} {md:Region.Mode} {S:World->Prop}
theorem tkR (i:Nat) {oi:Oper} {v:Value} {fuel:Nat} {listed:Array Bool} {a:Act} (hi:ops[i]? = some oi) (hy:F1a P ops S Ext oi v a) (h:B7a P md ops Q S Ext fuel (listed.setIfInBounds i true) (a.put oi.dst v) w)
    (hs:Region.noSelect ops=true:=by kernel_rfl) (hf:Region.free md ops listed i=true:=by kernel_rfl) (hr:(Region.ready md ops listed).contains i=true:=by kernel_rfl) (hQ:∀ c a w,Q (.panic c) (a.put oi.dst v) w->Q (.panic c) a w:=by exact (fun _ _ _ h=>h)):B7a P md ops Q S Ext (fuel+1) listed a w:=
  F8a Ext.refl (fun _ _ _=>Ext.trans) hi hs hf hr hQ hy h
theorem tkO (i:Nat) {oi:Oper} {v:Value} {fuel:Nat} {listed:Array Bool} {a:Act} (hi:ops[i]? = some oi) (hy:∀ w,S w->(execOp a.eval oi).run P w = .ok (.value v) w) (h:B7a P md ops Q S Ext fuel (listed.setIfInBounds i true) (a.put oi.dst v) w)
    (hw:Region.wanted oi (yielded ops a.tmps)=true:=by rfl) (hs:Region.noSelect ops=true:=by kernel_rfl) (hf:Region.free md ops listed i=true:=by kernel_rfl) (hr:(Region.ready md ops listed).contains i=true:=by kernel_rfl) (hQ:∀ c a w,Q (.panic c) (a.put oi.dst v) w->Q (.panic c) a w:=by exact (fun _ _ _ h=>h)):B7a P md ops Q S Ext (fuel+1) listed a w:=
  F8a Ext.refl (fun _ _ _=>Ext.trans) hi hs hf hr hQ (Or.inl (Or.inl ⟨hw,hy⟩)) h
theorem tkL (i:Nat) {oi:Oper} {v:Value} {q:Prop} {fuel:Nat} {listed:Array Bool} {a:Act} (h:q) (hi:ops[i]? = some oi:=by exact rfl) (hy:∀ w,S w->(execOp a.eval oi).run P w = .ok (.value v) w:=by intro w q;go_simp;try with_reducible rfl) (e:B7a P md ops Q S Ext fuel (listed.setIfInBounds i true) (a.put oi.dst v) w=q:=by first | (simp only [u2b,s3b,s4b,Act.put,q2b,w6b,w7b];exact rfl) | exact rfl)
    (hw:Region.wanted oi (yielded ops a.tmps)=true:=by rfl) (hs:Region.noSelect ops=true:=by kernel_rfl) (hf:Region.free md ops listed i=true:=by kernel_rfl) (hr:(Region.ready md ops listed).contains i=true:=by kernel_rfl) (hQ:∀ c a w,Q (.panic c) (a.put oi.dst v) w->Q (.panic c) a w:=by exact (fun _ _ _ h=>h)):B7a P md ops Q S Ext (fuel+1) listed a w:=
  F8a Ext.refl (fun _ _ _=>Ext.trans) hi hs hf hr hQ (Or.inl (Or.inl ⟨hw,hy⟩)) (e.mpr h)
theorem tkN (i:Nat) {oi:Oper} {q:Prop} {fuel:Nat} {listed:Array Bool} {a:Act} (h:q) (hi:ops[i]? = some oi:=by exact rfl) (e:B7a P md ops Q S Ext fuel (listed.setIfInBounds i true) (a.put oi.dst undef) w=q:=by first | (simp only [u2b,s3b,s4b,Act.put,q2b,w6b,w7b];exact rfl) | exact rfl)
    (hw:Region.wanted oi (yielded ops a.tmps)=false:=by rfl) (hs:Region.noSelect ops=true:=by kernel_rfl) (hf:Region.free md ops listed i=true:=by kernel_rfl) (hr:(Region.ready md ops listed).contains i=true:=by kernel_rfl) (hQ:∀ c a w,Q (.panic c) (a.put oi.dst undef) w->Q (.panic c) a w:=by exact (fun _ _ _ h=>h)):B7a P md ops Q S Ext (fuel+1) listed a w:=
  F8a Ext.refl (fun _ _ _=>Ext.trans) hi hs hf hr hQ (Or.inl (Or.inr ⟨hw,rfl⟩)) (e.mpr h)
theorem tkC {W0:World} (i:Nat) {oi:Oper} (v:Value) (f:FuncId) {args args2:Array Value} {q:Prop} {fuel:Nat} {listed:Array Bool} {a:Act} (hy:∀ w,Ext W0 w->Calls P f args w (Rt w v)) (h:q) (hi:ops[i]? = some oi:=by exact rfl)
    (hx:∀ w,Ext W0 w->(execOp a.eval oi).run P w = .ok (.enter f args2) w:=by intro w q;go_simp;try with_reducible rfl) (ha:args2=args:=by exact rfl) (e:B7a P md ops Q (fun W=>Ext W0 W) Ext fuel (listed.setIfInBounds i true) (a.put oi.dst v) w=q:=by first | (simp only [u2b,s3b,s4b,Act.put,q2b,w6b,w7b];exact rfl) | exact rfl)
    (hw:Region.wanted oi (yielded ops a.tmps)=true:=by rfl) (hs:Region.noSelect ops=true:=by kernel_rfl) (hf:Region.free md ops listed i=true:=by kernel_rfl) (hr:(Region.ready md ops listed).contains i=true:=by kernel_rfl) (hQ:∀ c a w,Q (.panic c) (a.put oi.dst v) w->Q (.panic c) a w:=by exact (fun _ _ _ h=>h)):B7a P md ops Q (fun W=>Ext W0 W) Ext (fuel+1) listed a w:=
  F8a Ext.refl (fun _ _ _=>Ext.trans) hi hs hf hr hQ (Or.inr ⟨hw,f,args,ha ▸ hx,fun w hE=>(hy w hE).mono (fun _ _ h=>⟨h.1,h.2,Ext.trans hE h.2⟩)⟩) (e.mpr h)
end
theorem rg0 {P:Program} {ops:Array Oper} {Q:Exit->Act->World->Prop} {id:Nat} {a:Act} {w:World} (W0:World) (h:B7a P .any ops Q (fun W=>Ext W0 W) Ext ops.size (Array.replicate ops.size false) a w.drew) (hm:P.follows .mixedOrders=true:=by kernel_rfl) (hS:Ext W0 w.drew:=by exact exx):(Code.region id ops true).wp P Q a w:=D4a hm Ext.refl hS h
theorem tkr {P:Program} {ops:Array Oper} {Q:Exit->Act->World->Prop} {md:Region.Mode} {S:World->Prop} (i:Nat) {oi:Oper} {v:Value} {q:Prop} {fuel:Nat} {listed:Array Bool} {a:Act} {w:World} (h:q) (hi:ops[i]? = some oi:=by exact rfl) (hy:∀ w,S w->(execOp a.eval oi).run P w = .ok (.value v) w:=by intro w q;go_simp;try with_reducible rfl) (e:B7a P md ops Q S Eq fuel (listed.setIfInBounds i true) (a.put oi.dst v) w=q:=by first | (simp only [u2b,s3b,s4b,Act.put,q2b,w6b,w7b];exact rfl) | exact rfl) (hw:Region.wanted oi (yielded ops a.tmps)=true:=by rfl) (hs:Region.noSelect ops=true:=by kernel_rfl) (hf:Region.free md ops listed i=true:=by kernel_rfl) (hr:(Region.ready md ops listed).contains i=true:=by kernel_rfl) (hQ:∀ c a w,Q (.panic c) (a.put oi.dst v) w->Q (.panic c) a w:=by exact (fun _ _ _ h=>h)):B7a P md ops Q S Eq (fuel+1) listed a w:=
 F8a (fun _=>rfl) (fun _ _ _ h k=>h.trans k) hi hs hf hr hQ (Or.inl (Or.inl ⟨hw,hy⟩)) (e.mpr h)
theorem tkq {P:Program} {ops:Array Oper} {Q:Exit->Act->World->Prop} {md:Region.Mode} {S:World->Prop} (i:Nat) {oi:Oper} {v:Value} {fuel:Nat} {listed:Array Bool} {a:Act} {w:World} (hy:∀ w,S w->(execOp a.eval oi).run P w = .ok (.value v) w) (h:B7a P md ops Q S Eq fuel (listed.setIfInBounds i true) (a.put oi.dst v) w) (hi:ops[i]? = some oi:=by exact rfl) (hw:Region.wanted oi (yielded ops a.tmps)=true:=by rfl) (hs:Region.noSelect ops=true:=by kernel_rfl) (hf:Region.free md ops listed i=true:=by kernel_rfl) (hr:(Region.ready md ops listed).contains i=true:=by kernel_rfl) (hQ:∀ c a w,Q (.panic c) (a.put oi.dst v) w->Q (.panic c) a w:=by exact (fun _ _ _ h=>h)):B7a P md ops Q S Eq (fuel+1) listed a w:=
 F8a (fun _=>rfl) (fun _ _ _ h k=>h.trans k) hi hs hf hr hQ (Or.inl (Or.inl ⟨hw,hy⟩)) h
theorem tkd {P:Program} {ops:Array Oper} {Q:Exit->Act->World->Prop} {md:Region.Mode} {S:World->Prop} (i:Nat) {oi oj:Oper} {v u:Value} {q:Prop} {fuel:Nat} {listed:Array Bool} {a:Act} {w:World} (h:q) (hi:ops[i]? = some oi:=by exact rfl) (hy:∀ w,S w->(execOp a.eval oi).run P w = .ok (.value v) w:=by intro w q;go_simp;try with_reducible rfl) (hj:ops[i+1]? = some oj:=by exact rfl) (hz:∀ w,S w->(execOp (a.put oi.dst v).eval oj).run P w = .ok (.value u) w:=by intro w q;(try simp only [u2b,s3b,s4b,Act.put,q2b,w6b,w7b]);go_simp;try with_reducible rfl) (e:B7a P md ops Q S Ext fuel ((listed.setIfInBounds i true).setIfInBounds (i+1) true) ((a.put oi.dst v).put oj.dst u) w=q:=by first | (simp only [u2b,s3b,s4b,Act.put,q2b,w6b,w7b];exact rfl) | exact rfl) (hw:Region.wanted oi (yielded ops a.tmps)=true:=by rfl) (hs:Region.noSelect ops=true:=by kernel_rfl) (hf:Region.free md ops listed i=true:=by kernel_rfl) (hr:(Region.ready md ops listed).contains i=true:=by kernel_rfl) (hQ:∀ c a w,Q (.panic c) (a.put oi.dst v) w->Q (.panic c) a w:=by exact (fun _ _ _ h=>h)) (hw2:Region.wanted oj (yielded ops (a.put oi.dst v).tmps)=true:=by rfl) (hf2:Region.free md ops (listed.setIfInBounds i true) (i+1)=true:=by kernel_rfl) (hr2:(Region.ready md ops (listed.setIfInBounds i true)).contains (i+1)=true:=by kernel_rfl) (hQ2:∀ c a w,Q (.panic c) (a.put oj.dst u) w->Q (.panic c) a w:=by exact (fun _ _ _ h=>h)):B7a P md ops Q S Ext (fuel+1+1) listed a w:=
 F8a Ext.refl (fun _ _ _=>Ext.trans) hi hs hf hr hQ (Or.inl (Or.inl ⟨hw,hy⟩)) (F8a Ext.refl (fun _ _ _=>Ext.trans) hj hs hf2 hr2 (fun c _ w h=>hQ2 c _ w h) (Or.inl (Or.inl ⟨hw2,hz⟩)) (e.mpr h))
open Go.RowKit
theorem H7a {S:Hp.Hs} (h:S.fields a=some l):∃ (t:Int) (k:Nat),S.tag a=some t/\Hp.wide S.sizes t=some (4+k)/\l.length=k/\a+4+k<=S.words.length /\ ∀ j x,Hp.rd l j=some x->Hp.rd S.words (a+4+j)=some x:=by
 obtain ⟨m,hm,h⟩:=s0b.1 h
 obtain ⟨t,ht,hm⟩:=s0b.1 hm
 have hk:∃ k,m=4+k:=by
  rcases a5a hm with ⟨_,rfl⟩ | ⟨_,i,s,_,_,rfl⟩
  . exact ⟨1,rfl⟩
  exact ⟨s,rfl⟩
 obtain ⟨k,rfl⟩:=hk
 unfold Hp.sub at h
 split at h
 case isFalse=>cases h
 rename_i hl
 cases h
 refine ⟨t,k,ht,hm,by simp;omega,by omega,fun j x hx=>?_⟩
 unfold Hp.rd at hx ⊢
 rw [x2b] at hx
 split at hx
 . rw [w1b] at hx;exact hx
 cases hx
theorem n1a {d:Hd} {S:Hp.Hs} (h:HAt w d S) (hl:S.fields a=some l):0 < l.length:=by
 obtain ⟨t,k,ht,hw,rfl,hle,-⟩:=H7a hl
 rcases a5a hw with ⟨_,h1⟩ | ⟨_,i,s,_,hs,h1⟩
 . omega
 have:=h.pos s (u1b hs)
 omega
theorem A7b {d:Hd} {S:Hp.Hs} (h:HAt w d S) (hw:Hp.wide S.sizes t=some k):5<=k/\k<=16:=by
 rcases a5a hw with ⟨_,h1⟩ | ⟨_,i,s,_,hs,h1⟩
 . omega
 have:=h.pos s (u1b hs)
 omega
theorem S5a {d:Hd} {S:Hp.Hs} (h:HAt w d S) (hl:S.fields a=some l):SliceAt w (some ⟨d.gw,a+4,none⟩) l.length l:=by
 obtain ⟨t,k,ht,hw,rfl,hle,hx⟩:=H7a hl
 have:=h.le
 have:=h.cap
 exact ⟨H0c _,by omega,fun x hm=>by
  obtain ⟨j,hj,rfl⟩:=u9b hm;exact h.words.bound (hx j _ (r1b hj)),fun _=>⟨d.gw,a+4,rfl,h.words.lt,fun j x hj=>h.words.get (hx j x hj)⟩⟩
theorem K4a {d:Hd} {S:Hp.Hs} (h:HAt w d S) (hl:S.fields a=some l) :
    Calls prog 79 #[.pointer (some ⟨d.hb,0,none⟩),.int .i64 a] w (Rt w (.slice (some ⟨d.gw,a+4,none⟩) l.length l.length)):=by
  have h0:=n1a h hl;obtain ⟨t,k,ht,hw,rfl,hle,-⟩:=H7a hl;have c0:=h.c0;have c1:=h.c1;have c2:=h.c2;have hlt:=h.lt;have hcap:=h.cap;have hle':=h.le;have H:=hZ h;clear h hl;go_enter func79,ntmps79;have e1:a+(4+l.length)-(a+4)=l.length:=by omega
  go_wp2_with fail
  have pr1a:=Ext.r c0;have pr1b:=Ext.r c1;have pr1c:=Ext.r c2
  refine rg0 w ?_
  refine' tkd 0 ?_;refine' tkd 2 ?_;refine' tkd 4 ?_;refine' tkd 6 ?_;refine' tkL 8 ?_;refine' tkC 9 (.int .i64 t) 76 (fun w hE=>F4a (hE.q c2) rfl hle' hcap (H.out.ext hE).words ht) ?_;refine' tkC 10 (.int .i64 (4+l.length:Nat)) 123 (fun w hE=>V7a (H.out.ext hE).sizes hw (by omega)) ?_;refine' tkd 11 ?_;refine' tkL 13 ?_;refine A0a (by kernel_rfl) ?_ _;intro x1 _ Ex1;clear pr1a pr1b pr1c;have c2':=Ex1.q c2;go_wp2
  all_goals first
   | (exfalso;simp_all;done)
   | ((try simp only [e1]);go_returns;exact ⟨rfl,exx⟩)
   | (rw [e1];go_returns;exact ⟨rfl,exx⟩)
theorem d0b {d:Hd} {S:Hp.Hs} (h:HAt w d S) (ht:S.tag a=some t) (he:Hp.B1a t=true) :
    Calls prog 80 #[.pointer (some ⟨d.hb,0,none⟩),.int .i64 a] w (Rt w (.slice none 0 0)):=by
  have H:=hZ h;clear h;go_enter func80,ntmps80
  go_wp2_with (first
   | (go_at_call 76;refine m4_ (F4a H.out.c2 rfl H.out.le H.out.cap H.out.words ht) fun w1 hb1 hc1 hf1 hs1=>?_)
   | (go_at_call 78;refine m4_ (H4a he _) fun w2 hb2 hc2 hf2 hs2=>?_))
  go_returns;exact ⟨rfl,exx⟩
theorem W4b {d:Hd} {S:Hp.Hs} (h:HAt w d S) (ht:S.tag a=some t) (he:Hp.B1a t=false) (hl:S.fields a=some l) :
    Calls prog 80 #[.pointer (some ⟨d.hb,0,none⟩),.int .i64 a] w (Rt w (.slice (some ⟨d.gw,a+4,none⟩) l.length l.length)):=by
  have H:=hZ h;clear h;go_enter func80,ntmps80
  go_wp2_with (first
   | (go_at_call 76;refine m4_ (F4a H.out.c2 rfl H.out.le H.out.cap H.out.words ht) fun w1 hb1 hc1 hf1 hs1=>?_)
   | (go_at_call 78;refine m4_ (H4a he _) fun w2 hb2 hc2 hf2 hs2=>?_)
   | (go_at_call 79;refine m4_ (K4a (H.out.ext (hb1.trans hb2)) hl) fun w3 hb3 hc3 hf3 hs3=>?_))
  go_returns;exact ⟨rfl,exx⟩
theorem J4a {y:Int} (h:Hp.ck x=some y):y=x /\ -4611686018427387904 < x/\x < 4611686018427387904:=by
 unfold Hp.ck at h
 split at h
 . cases h;rename_i hb;exact ⟨rfl,hb⟩
 cases h
theorem S3a (h:Hp.rc W i=some x):Hp.rd W i=some x /\ -4611686018427387904 < x/\x < 4611686018427387904:=by
 obtain ⟨y,hy,h⟩:=s0b.1 h
 obtain ⟨rfl,h1⟩:=J4a h
 exact ⟨hy,h1⟩
theorem i4b (n:Int) : -16 < n.tmod 16/\n.tmod 16 < 16/\n.tmod 16 % 16=max (n % 16) 0:=by
 by_cases h:0<=n
 . rw [Int.tmod_eq_emod_of_nonneg h];omega
 have e:n.tmod 16 = -((-n) % 16):=by
  have h2:=Int.neg_tmod (-n) 16;rw [Int.neg_neg,Int.tmod_eq_emod_of_nonneg (a:=-n) (by omega)] at h2;exact h2
 rw [e]
 omega
theorem Y8a (h:SliceAt w p c l) (hk:Hp.chain t l=some k) :
    Calls prog 132 #[.int .i64 t,.slice p l.length c] w (Rt w (.int .i64 k)):=by
  simp only [Hp.chain,v9b,s0b,C9c,z7b] at hk;obtain ⟨t',ht,n0,hn,r,hr,hk⟩:=hk;obtain ⟨rfl,ht1,ht2⟩:=J4a ht;obtain ⟨rfl,hn1,hn2⟩:=J4a hn;subst hk;have hle:=h.le;have hcap:=h.cap;have H:=hZ h;have HR:=hZ hr;clear h hr ht hn;generalize hL:l.length=n at hle ⊢;have HL:=hZ hL;clear hL;go_enter func132,ntmps132;go_wp2
  go_loop [5,12] (fun a i=>∃ (j:Nat) (m:Int),j<=n/\i = .int .i64 j/\a = .int .i64 m /\ -4611686018427387904 < m/\m < 4611686018427387904/\Hid (Hp.sums (l.drop j) j m=some r)) (fun _ i=>n-(intOf i).toNat)
  case atStart=>exact ⟨0,_,G9c _,rfl,rfl,hn1,hn2,HR⟩
  case round=>
   obtain ⟨j,m,hj,rfl,rfl,hm1,hm2,HS⟩:=hrel
   by_cases hlt:j < n
   . have hjl:j < l.length:=by rw [HL.out];exact hlt
     have hs:=HS.out;rw [q8b hjl] at hs;obtain ⟨f,hf,hs⟩:=s0b.1 hs;obtain ⟨m',hm',hs⟩:=s0b.1 hs;obtain ⟨hfe,hf1,hf2⟩:=J4a hf;obtain ⟨rfl,hm3,hm4⟩:=J4a hm';rw [<- hfe] at hf1 hf2;obtain ⟨b,o,rfl,hb,hc⟩:=H.out.cells (by omega);have g:=hc j f (by unfold Hp.rd;rw [r1b hjl,hfe]);have HT:=hZ hs;clear hs hf hfe hm' hc HS;generalize he:((j:Int)+1) * f=q at hm3 hm4 HT;have e2:wrap64 (((j:Int)+1) * f)=q:=by rw [he];exact z8b _ ⟨by omega,by omega⟩
     clear he;go_wp2
     go_round
     case rel=>exact ⟨j+1,m+q,by omega,by go_num,rfl,hm3,hm4,HT⟩
     case measure=>simp [intOf];omega
   have:j=n:=by omega
   subst this;have hs:=HS.out;rw [s5b (by rw [HL.out];exact H0c _)] at hs;obtain rfl:m=r:=by simpa [Hp.sums] using hs
   clear hs HS HR;obtain ⟨q1,q2,q3⟩:=i4b m;have Q:=hZ q3;clear q3;go_wp2;go_returns;refine ⟨?_,exx⟩;show Ending.returned (Value.int IntKind.i64 (m.tmod 16 % 16))=_;rw [Q.out]
theorem index_hit (hk:Hp.rd l k=some x) (h:∀ j,j < k->Hp.rd l j ≠ some x):Hp.index l x=k:=by
 have e:l.findIdx? (· == x)=some k:=by
  rw [p4b];unfold Hp.rd at hk h;obtain ⟨hl,he⟩:=q5b.1 hk;refine ⟨hl,by simp [he],fun j hj=>?_⟩;have:=h j hj;rw [r1b (by omega)] at this
  simpa using this
 simp [Hp.index,e]
theorem L9b (h:∀ j,j < l.length->Hp.rd l j ≠ some x):Hp.index l x = -1:=by
 have e:l.findIdx? (· == x)=none:=by
  rw [q7b];intro y hy;obtain ⟨j,hj,rfl⟩:=u9b hy;have:=h j hj;unfold Hp.rd at this;rw [r1b hj] at this
  simpa using this
 simp [Hp.index,e]
theorem A4a (h:j < l.length):∃ x,Hp.rd l j=some x:=⟨l[j],r1b h⟩
theorem m5a (h:SliceAt w p c l) :
    Calls prog 169 #[.slice p l.length c,.int .i64 x] w (Rt w (.int .i64 (Hp.index l x))):=by
  have hle:=h.le;have hcap:=h.cap;have H:=hZ h;clear h;generalize hL:l.length=n at hle ⊢;have HL:=hZ hL;clear hL;go_enter func169,ntmps169;go_wp2
  go_loop [8] (fun i=>∃ j:Nat,j<=n/\i = .int .i64 j/\Aside (∀ m,m < j->Hp.rd l m ≠ some x)) (fun i=>n-(intOf i).toNat)
  case atStart=>exact ⟨0,G9c _,rfl,fun m hm=>absurd hm (D0c _)⟩
  case round=>
   obtain ⟨j,hj,rfl,HA⟩:=hrel
   by_cases hlt:j < n
   . obtain ⟨f,hf⟩:=A4a (l:=l) (j:=j) (by rw [HL.out];exact hlt);obtain ⟨b,o,rfl,hb,hc⟩:=H.out.cells (by rw [HL.out];omega);have g:=hc j f hf;have HF:=hZ hf;clear hf hc
     by_cases he:x=f
     . subst he;go_wp2;go_returns;exact ⟨by rw [index_hit HF.out HA.out];rfl,exx⟩
     have e1:(x == f)=false:=by simpa using he
     go_wp2
     go_round
     case rel=>
      refine ⟨j+1,by omega,by go_num,(show Aside _ from fun m hm=>?_)⟩
      by_cases e:m=j
      . subst e;rw [HF.out];intro h
        cases h
        exact he rfl
      exact HA.out m (by omega)
     case measure=>simp [intOf];omega
   have:j=n:=by omega
   subst this;go_wp2;go_returns;exact ⟨by rw [L9b (by rw [HL.out];exact HA.out)];rfl,exx⟩
theorem F3b {m:List Int} (hl:l.length=m.length) (h:∀ j,j < l.length->Hp.rd l j=Hp.rd m j):l=m:=by
 apply y2b 
 intro i
 by_cases hi:i < l.length
 . exact h i hi
 rw [s9b (by omega),s9b (by omega)]
theorem m2a {d:Nat} {m:List Int} (h:SliceAt w p c l) (k:SliceAt w q d m) :
    Calls prog 101 #[.slice p l.length c,.slice q m.length d] w (Rt w (.bool (decide (l=m)))):=by
  by_cases hne:l.length=m.length
  case neg=>
   have e:decide (l=m)=false:=by
    apply D7c;intro e;exact hne (by rw [e])
   rw [e];have hle:=h.le;have hcap:=h.cap;have hle':=k.le;have hcap':=k.cap;clear h k e;generalize l.length=a at *;generalize m.length=b at *;have e1:((a:Int) == (b:Int))=false:=by simpa using (by omega:¬ (a:Int)=b)
   go_enter func101,ntmps101;go_wp2;go_returns;exact ⟨rfl,exx⟩
  case pos=>
   have hle:=h.le;have hcap:=h.cap;have hcap':=k.cap;have H:=hZ h;have K:=hZ k;clear h k;rw [<- hne];have HM:=hZ hne;clear hne;generalize hL:l.length=n at hle ⊢;have HL:=hZ hL;clear hL;have mixed:prog.follows .mixedOrders=true:=by kernel_rfl
   go_enter func101,ntmps101;go_wp2
   go_loopg [13] n (fun g i wr=>∃ j:Nat,j<=n/\n-j<=g/\i = .int .i64 j/\Aside (Ext w wr)/\Aside (∀ i,i < j->Hp.rd l i=Hp.rd m i))
   case atStart=>exact ⟨0,G9c _,by omega,rfl,Ext.refl w,fun m hm=>absurd hm (D0c _)⟩
   case round=>
    obtain ⟨j,hj,hg,rfl,HE,HA⟩:=hrel
    by_cases hlt:j < n
    . obtain ⟨f,hf⟩:=A4a (l:=l) (j:=j) (by rw [HL.out];exact hlt);obtain ⟨f',hf'⟩:=A4a (l:=m) (j:=j) (by rw [<- HM.out,HL.out];exact hlt);obtain ⟨b,o,rfl,hb,hc⟩:=(H.out.ext HE.out).cells (by rw [HL.out];omega);obtain ⟨b',o',rfl,hb',hc'⟩:=(K.out.ext HE.out).cells (by rw [<- HM.out,HL.out];omega);have g1:=hc j f hf;have g2:=hc' j f' hf';have HF:=hZ hf;have HF':=hZ hf';clear hf hc hf' hc'
      by_cases he:f=f'
      . subst he
        go_wp2_with fail
        go_region_o
        go_wp2
        go_roundg (n-(j+1))
        case measure=>omega
        case rel=>
         refine ⟨j+1,by omega,by omega,by go_num,(show Aside _ from HE.out.drew),(show Aside _ from fun i hi=>?_)⟩
         by_cases e:i=j
         . subst e;rw [HF.out,HF'.out]
         exact HA.out i (by omega)
      have e1:(f == f')=false:=by simpa using he
      go_wp2_with fail
      go_region_o
      go_wp2;go_returns;refine ⟨?_,HE.out.drew⟩;have e:decide (l=m)=false:=by
       apply D7c;rintro rfl;have:=HF.out;rw [HF'.out] at this
       cases this
       exact he rfl
      rw [e];rfl
    have:j=n:=by omega
    subst this;go_wp2;go_returns;refine ⟨?_,HE.out⟩;have e:decide (l=m)=true:=E5c (F3b HM.out (by rw [HL.out];exact HA.out));rw [e];rfl
theorem f7a {d:Nat} {order:List Int} (hS:SliceAt w q d order) (ht1 : -9223372036854775808 < t) (ht2:t<=9223372036854775807) :
    Calls prog 126 #[.agg #[.slice p n c,.slice q order.length d],.int .i64 t] w (Rt w (.int .i64 (Hp.rank order t))):=by
  have H:=hZ hS;clear hS
  cases he:Hp.B1a t with
  | true=>
   have e1:Hp.rank order t=order.length:=by simp [Hp.rank,he]
   rw [e1];clear e1;have HE:=hZ he;clear he;go_enter func126,ntmps126
   go_wp2_with (go_at_call 78;refine m4_ (H4a HE.out _) fun w1 hb1 hc1 hf1 hs1=>?_;obtain ⟨hz1_0,hc1_0,hf1_0⟩:=c3_ hb1 w.heap.size)
   refine bodyPost_ret (v:=.int .i64 order.length) (by simp [results,results126,go_sem, *]) rfl ⟨rfl,exx⟩
  | false=>
   have e1:Hp.rank order t=Hp.index order (t-1):=by simp [Hp.rank,he]
   rw [e1];clear e1;have HE:=hZ he;clear he;go_enter func126,ntmps126
   go_wp2_with (first
    | (go_at_call 78;refine m4_ (H4a HE.out _) fun w1 hb1 hc1 hf1 hs1=>?_;obtain ⟨hz1_0,hc1_0,hf1_0⟩:=c3_ hb1 w.heap.size)
    | (go_at_call 169;refine m4_ (m5a (H.out.ext (exx:Ext w _))) fun w2 hb2 hc2 hf2 hs2=>?_;obtain ⟨hz2_0,hc2_0,hf2_0⟩:=c3_ hb2 w.heap.size))
   refine bodyPost_ret (v:=.int .i64 (Hp.index order (t-1))) (by simp [results,results126,go_sem, *]) rfl ⟨rfl,exx⟩
theorem H2a {d:Nat} {m:List Int} {b:Bool} (hb:decide (l=m)=b) (h:SliceAt w p c l) (k:SliceAt w q d m) :
    Calls prog 101 #[.slice p l.length c,.slice q m.length d] w (Rt w (.bool b)):=by
  subst hb;exact m2a h k
theorem Z5a {S:Hp.Hs} {tag:Int} {r:Nat} (h:S.H0a tag l n a=some r) :
    (a=0/\r=0) \/ (a ≠ 0 /\ ∃ n' t f,n=n'+1/\S.tag a=some t/\S.fields a=some f/\((t=tag/\f=l/\r=a) \/ (¬ (t=tag/\f=l) /\ ∃ a',Hp.ra S.words (a+3)=some a'/\S.H0a tag l n' a'=some r))):=by
  cases n with
  | zero=>simp [Hp.Hs.H0a] at h
  | succ n=>
   unfold Hp.Hs.H0a at h
   by_cases ha:a=0
   . rw [H5c ha] at h;simp only [z7b] at h;exact .inl ⟨ha,h.symm⟩
   rw [H4c ha] at h;simp only [v9b,s0b] at h;obtain ⟨t,ht,f,hf,h⟩:=h;refine .inr ⟨ha,n,t,f,rfl,ht,hf, ?_⟩
   split at h
   . rename_i hc;exact .inl ⟨hc.1,hc.2,by simpa using h.symm⟩
   rename_i hc;simp only [s0b] at h;obtain ⟨a',ha',h⟩:=h;exact .inr ⟨hc,a',ha',h⟩
theorem s8a {d:Hd} {S:Hp.Hs} {r:Nat} {tag:Int} (h:HAt w d S) (hf:SliceAt w p c l) (hr:S.look tag l=some r) :
    Calls prog 110 #[.pointer (some ⟨d.hb,0,none⟩),.int .i64 tag,.slice p l.length c] w (Rt w (.int .i64 r)):=by
  unfold Hp.Hs.look at hr;simp only [v9b,s0b] at hr;obtain ⟨k,hk,a,ha,hr⟩:=hr;have hkl:k < S.words.length:=G0a (C6a ha);have g:=h.words.get (C6a ha);have c2:=h.c2;have z1:=h.lt;have z2:=h.words.lt;have hle:=h.le;have hcap:=h.cap;have H:=hZ h;have HF:=hZ hf;have HR:=hZ hr;have HK:=hZ hk;clear h hf hr hk ha;go_enter func110,ntmps110
  go_wp2_with fail
  have pr2a:=Ext.r c2;have pr2b:=Ext.r g
  refine rg0 w ?_
  refine' tkd 0 ?_;refine' tkd 2 ?_;refine' tkd 4 ?_;refine' tkC 6 (.int .i64 k) 132 (fun w hE=>Y8a (HF.out.ext hE) HK.out) ?_;refine' tkd 7 ?_;refine' tkL 9 ?_;refine A0a (by kernel_rfl) ?_ _;intro x1 _ Ex1;clear pr2a pr2b
  go_wp2_with fail
  go_loopg [7] S.fuel (fun g s wr=>∃ m a:Nat,m<=g/\s = .int .i64 a/\Aside (Ext w wr)/\Hid (S.H0a tag l m a=some r))
  case atStart=>exact ⟨S.fuel,a,H0c _,rfl,Ex1,HR⟩
  case round=>
   obtain ⟨m,a,hm,rfl,HE,HL⟩:=hrel;clear c2 g;have H1:=hZ (H.out.ext HE.out);have F1:=hZ (HF.out.ext HE.out);have c2:=H1.out.c2;have z1:=H1.out.lt;have z2:=H1.out.words.lt
   rcases Z5a HL.out with ⟨rfl,rfl⟩ | ⟨ha,n',t,f,hn',ht,hf,hq⟩
   . go_wp2_with fail
     go_returns;exact ⟨rfl,HE.out⟩
   have HT:=hZ ht;have HFf:=hZ hf;have Hn:=hZ hn';clear ht hf hn';have ha':((a:Int) != 0)=true:=by simpa using ha
   by_cases htt:t=tag
   . subst htt
     by_cases hff:f=l
     . have hra:r=a:=by
         rcases hq with ⟨_,_,h⟩ | ⟨h,_⟩
         . exact h
         exact absurd ⟨rfl,hff⟩ h
       subst hra;clear hq;have HD:=hZ (E5c hff);clear hff
       go_wp2_with (first
        | (go_at_call 76;refine m4_ (F4a c2 rfl hle hcap H1.out.words HT.out) fun w1 hb1 hc1 hf1 hs1=>?_)
        | (go_at_call 79;refine m4_ (K4a (H1.out.ext (exx)) HFf.out) fun w2 hb2 hc2 hf2 hs2=>?_)
        | (go_at_call 101;refine m4_ (H2a HD.out (S5a (H1.out.ext (exx)) HFf.out) (F1.out.ext (exx))) fun w3 hb3 hc3 hf3 hs3=>?_))
       go_returns;exact ⟨rfl,HE.out.trans (exx)⟩
     obtain ⟨a',hra,hq⟩:∃ a',Hp.ra S.words (a+3)=some a'/\S.H0a t l n' a'=some r:=by
      rcases hq with ⟨_,h,_⟩ | ⟨_,h⟩
      . exact absurd h hff
      exact h
     have hal:=G0a (C6a hra);have g:=H1.out.words.get (C6a hra);have HQ:=hZ hq;have HD:=hZ (D7c hff);clear hff hq hra
     go_wp2_with (first
      | (go_at_call 76;refine m4_ (F4a c2 rfl hle hcap H1.out.words HT.out) fun w1 hb1 hc1 hf1 hs1=>?_)
      | (go_at_call 79;refine m4_ (K4a (H1.out.ext (exx)) HFf.out) fun w2 hb2 hc2 hf2 hs2=>?_)
      | (go_at_call 101;refine m4_ (H2a HD.out (S5a (H1.out.ext (exx)) HFf.out) (F1.out.ext (exx))) fun w3 hb3 hc3 hf3 hs3=>?_;have E3:=(hb1.trans hb2).trans hb3;have c2'':=E3.q c2;have g'':=E3.q g))
     go_roundg (n')
     case measure=>have:=Hn.out;omega
     case rel=>exact ⟨n',a',H0c _,rfl,HE.out.trans (exx),HQ⟩
   obtain ⟨a',hra,hq⟩:∃ a',Hp.ra S.words (a+3)=some a'/\S.H0a tag l n' a'=some r:=by
    rcases hq with ⟨h,_,_⟩ | ⟨_,h⟩
    . exact absurd h htt
    exact h
   have hal:=G0a (C6a hra);have g:=H1.out.words.get (C6a hra);have HQ:=hZ hq;have htt':(t != tag)=true:=by simpa using htt
   clear htt hq hra
   go_wp2_with (first
    | (go_at_call 76;refine m4_ (F4a c2 rfl hle hcap H1.out.words HT.out) fun w1 hb1 hc1 hf1 hs1=>?_))
   go_roundg (n')
   case measure=>have:=Hn.out;omega
   case rel=>exact ⟨n',a',H0c _,rfl,HE.out.trans (exx),HQ⟩
namespace Hp.Hs
variable (S:Hs)
def Kid (a b:Nat):Prop:=∃ ks l,S.kids a=some ks/\adrs ks=some l/\b ∈ l
inductive Reach (R:List Nat):Nat->Prop
 | root {x:Nat}:x ∈ R->Reach R x
 | step {a b:Nat}:Reach R a->S.Kid a b->Reach R b
def Kids (a:Nat):Prop:=∃ ks l,S.kids a=some ks/\adrs ks=some l
variable {S:Hs}
theorem Reach.mono {R R':List Nat} (h:∀ x ∈ R,S.Reach R' x) {x:Nat} (k:S.Reach R x):S.Reach R' x:=by
 induction k with
 | root hx=>exact h _ hx
 | step _ hk ih=>exact .step ih hk
theorem R4a:∀ (n:Nat) (L st L':List Nat),S.L8a n L st=some L'->L.Pairwise (· < ·) ->
    L'.Pairwise (· < ·)/\(∀ x ∈ L,x ∈ L')/\(∀ x ∈ st,x ∈ L')/\(∀ x ∈ L',x ∈ L \/ S.Reach st x)/\(∀ x ∈ L',x ∈ L \/ (S.Kids x /\ ∀ b,S.Kid x b->b ∈ L'))
  | n,L,[],L',h,hs=>by
   have:L=L':=by
    unfold L8a at h
    cases n <;> simpa using h
   subst this;exact ⟨hs,fun _ h=>h,(fun _ h=>by cases h),fun _ h=>.inl h,fun _ h=>.inl h⟩
  | 0,L,a :: r,L',h,hs=>by simp [L8a] at h
  | n+1,L,a :: r,L',h,hs=>by
   unfold L8a at h
   by_cases hc:L.contains a=true
   . rw [H5c hc] at h;obtain ⟨h1,h2,h3,h4,h5⟩:=R4a n L r L' h hs;refine ⟨h1,h2,fun x hx=>?_,fun x hx=>?_,h5⟩
     . rcases E6c.1 hx with rfl | hx
       . exact h2 _ (by simpa using hc)
       exact h3 _ hx
     rcases h4 x hx with h | h
     . exact .inl h
     exact .inr (h.mono fun y hy=>.root (by simp [hy]))
   rw [H4c hc] at h;obtain ⟨ks,hk,h⟩:=s0b.1 h;obtain ⟨l,hl,h⟩:=s0b.1 h;obtain ⟨h1,h2,h3,h4,h5⟩:=R4a n (insert a L) (l ++ r) L' h (V6a a hs);refine ⟨h1,fun x hx=>h2 x ((D6a a x L).2 (.inr hx)),fun x hx=>?_,fun x hx=>?_,fun x hx=>?_⟩
   . rcases E6c.1 hx with rfl | hx
     . exact h2 _ ((D6a _ _ L).2 (.inl rfl))
     exact h3 _ (by simp [hx])
   . rcases h4 x hx with h | h
     . rcases (D6a a x L).1 h with rfl | h
       . exact .inr (.root (by simp))
       exact .inl h
     refine .inr (h.mono fun y hy=>?_)
     rcases C4c.1 hy with hy | hy
     . exact .step (.root (by simp)) ⟨ks,l,hk,hl,hy⟩
     exact .root (by simp [hy])
   rcases h5 x hx with h | h
   . rcases (D6a a x L).1 h with rfl | h
     . refine .inr ⟨⟨ks,l,hk,hl⟩,fun b hb=>?_⟩;obtain ⟨ks',l',h1',h2',hb⟩:=hb;rw [hk] at h1'
       cases h1'
       rw [hl] at h2'
       cases h2'
       exact h3 b (by simp [hb])
     exact .inl h
   exact .inr h
theorem U6a:∀ {l r:List Nat},S.held l=some r -> ∀ x,x ∈ r ↔ x ∈ l /\ ∃ v,rd S.words (x+2)=some v/\v > 0
 | [],r,h,x=>by simp [held] at h;subst h;simp
 | a :: l,r,h,x=>by
  unfold held at h;obtain ⟨r0,h0,h⟩:=s0b.1 h;obtain ⟨v,hv,h⟩:=s0b.1 h;have ih:=U6a h0 x
  split at h
  . rename_i hp
    cases h
    simp only [E6c,ih];constructor
    . rintro (rfl | ⟨h1,h2⟩)
      . exact ⟨.inl rfl,v,hv,hp⟩
      exact ⟨.inr h1,h2⟩
    rintro ⟨rfl | h1,h2⟩
    . exact .inl rfl
    exact .inr ⟨h1,h2⟩
  rename_i hp
  cases h
  rw [ih];constructor
  . rintro ⟨h1,h2⟩;exact ⟨by simp [h1],h2⟩
  rintro ⟨h1,v',hv',h2⟩
  rcases E6c.1 h1 with rfl | h1
  . rw [hv] at hv'
    cases hv'
    exact absurd h2 hp
  exact ⟨h1,v',hv',h2⟩
theorem T4b:∀ {l r:List Nat},S.held l=some r -> ∀ x ∈ l,∃ v,rd S.words (x+2)=some v
 | [],_,_,x,hx=>by cases hx
 | a :: l,r,h,x,hx=>by
  unfold held at h;obtain ⟨r0,h0,h⟩:=s0b.1 h;obtain ⟨v,hv,h⟩:=s0b.1 h
  rcases E6c.1 hx with rfl | hx
  . exact ⟨v,hv⟩
  exact T4b h0 x hx
theorem u9a (h:S.live=some T):∃ R,S.held S.taken=some R/\T.Pairwise (· < ·)/\(∀ x,x ∈ T ↔ S.Reach R x) /\ ∀ x,S.Reach R x->S.Kids x:=by
 obtain ⟨R,hR,h⟩:=s0b.1 h
 obtain ⟨h1,_,h3,h4,h5⟩:=R4a _ _ _ _ h List.Pairwise.nil
 have key:∀ x,S.Reach R x->x ∈ T:=by
  intro x hx
  induction hx with
  | root hx=>exact h3 _ hx
  | step _ hk ih=>
   rcases h5 _ ih with h | h
   . cases h
   exact h.2 _ hk
 refine ⟨R,hR,h1,fun x=>⟨fun hx=>?_,key x⟩,fun x hx=>?_⟩
 . rcases h4 x hx with h | h
   . cases h
   exact h
 rcases h5 x (key x hx) with h | h
 . cases h
 exact h.1
theorem o1a:∀ {A B:List Nat},A.Pairwise (· < ·)->B.Pairwise (· < ·)->(∀ x,x ∈ A ↔ x ∈ B)->A=B
 | [],[],_,_,_=>rfl
 | [],b :: B,_,_,h=>by have:=(h b).2 (by simp);cases this
 | a :: A,[],_,_,h=>by have:=(h a).1 (by simp);cases this
 | a :: A,b :: B,ha,hb,h=>by
  obtain ⟨a1,a2⟩:=w3b.1 ha;obtain ⟨b1,b2⟩:=w3b.1 hb;have e:a=b:=by
   have ha:=(h a).1 (by simp);have hb:=(h b).2 (by simp)
   rcases E6c.1 ha with h1 | h1
   . exact h1
   rcases E6c.1 hb with h2 | h2
   . exact h2.symm
   have:=a1 b h2;have:=b1 a h1;omega
  subst e;rw [o1a a2 b2 fun x=>?_];constructor
  . intro hx
    rcases E6c.1 ((h x).1 (by simp [hx])) with rfl | h'
    . exact absurd (a1 x hx) (E9c _)
    exact h'
  intro hx
  rcases E6c.1 ((h x).2 (by simp [hx])) with rfl | h'
  . exact absurd (b1 x hx) (E9c _)
  exact h'
end Hp.Hs
open Go.RowKit
namespace HAt
variable {w w':World} {d:Hd} {S:Hp.Hs}
theorem turn (h:HAt w d S) (k:But [d.gw,d.gm] w w') (hw:A3a w' d.gw W) (hl:W.length=S.words.length) (hm:MapAt prog w' d.gm T) (hb:∀ a ∈ T,a < W.length):HAt w' d { S with words:=W,taken:=T }:=by
 have n1:d.hb ∉ [d.gw,d.gm]:=by simp [h.apart1,h.apart2]
 exact
 { c0:=(k.cell h.lt n1 0).trans h.c0
   c1:=(k.cell h.lt n1 1).trans h.c1
   c2:=by rw [k.cell h.lt n1 2,h.c2,hl]
   c3:=(k.cell h.lt n1 3).trans h.c3
   f2:=(k.frozen h.lt n1 2).trans h.f2
   sizes:=h.sizes.but k (fun b o e hm=>h.far1 b o e (by simp [Hd.own] at hm ⊢;rcases hm with hm | hm <;> simp [hm]))
   order:=h.order.but k (fun b o e hm=>h.far2 b o e (by simp [Hd.own] at hm ⊢;rcases hm with hm | hm <;> simp [hm]))
   words:=hw
   le:=by rw [hl];exact h.le
   cap:=h.cap
   map:=hm
   below:=hb
   apart1:=h.apart1
   apart2:=h.apart2
   apart3:=h.apart3
   far1:=h.far1
   far2:=h.far2
   pos:=h.pos
   small:=by rw [hl];exact h.small
   few:=h.few
   old1:=fun b o e=>x4b (h.old1 b o e) k.size
   old2:=fun b o e=>x4b (h.old2 b o e) k.size }
theorem but (h:HAt w d S) {l:List Nat} (k:But l w w') (h0:d.hb ∉ l) (h1:d.gw ∉ l) (h2:d.gm ∉ l) (h3:∀ b o,d.sp=some ⟨b,o,none⟩->b ∉ l) (h4:∀ b o,d.op=some ⟨b,o,none⟩->b ∉ l):HAt w' d S:=
 { h with
   c0:=(k.cell h.lt h0 0).trans h.c0
   c1:=(k.cell h.lt h0 1).trans h.c1
   c2:=(k.cell h.lt h0 2).trans h.c2
   c3:=(k.cell h.lt h0 3).trans h.c3
   f2:=(k.frozen h.lt h0 2).trans h.f2
   sizes:=h.sizes.but k h3
   order:=h.order.but k h4
   words:=h.words.but k h1
   map:=h.map.but k h2
   old1:=fun b o e=>x4b (h.old1 b o e) k.size
   old2:=fun b o e=>x4b (h.old2 b o e) k.size }
theorem D9a {W':List Int} {v:Int} (h:Hp.wr W j v=some W'):W'.length=W.length/\j < W.length:=by
 unfold Hp.wr at h
 split at h
 . rename_i hj
   cases h
   exact ⟨by simp,hj⟩
 cases h
theorem O7a {W':List Int} (h:Hp.zero W i n=some W'):W'.length=W.length/\i+n<=W.length:=by
 unfold Hp.zero at h
 split at h
 . rename_i hj
   cases h
   exact ⟨by simp;omega,hj⟩
 cases h
theorem T5a {W':List Int} (h:Hp.lay W i l=some W'):W'.length=W.length/\i+l.length<=W.length:=by
 unfold Hp.lay at h
 split at h
 . rename_i hj
   cases h
   exact ⟨by simp;omega,hj⟩
 cases h
theorem clear (h:HAt w d S) (hw:Hp.zero S.words i n=some W):HAt (w.setCells d.gw i (List.replicate n (.int .i64 0))) d { S with words:=W }:=by
 have k:But [d.gw,d.gm] w (w.setCells d.gw i (List.replicate n (.int .i64 0))):=But.setCells (by simp) _ _ (But.refl _ _)
 have k1:But [d.gw] w (w.setCells d.gw i (List.replicate n (.int .i64 0))):=But.setCells (by simp) _ _ (But.refl _ _)
 exact h.turn k (h.words.clear hw) (O7a hw).1 (h.map.but k1 (by simp [h.apart3.symm])) (fun a ha=>by rw [(O7a hw).1];exact h.below a ha)
theorem mapped (h:HAt w d S) (k:w.mapTurned w' d.gm) (hm:MapAt prog w' d.gm T) (hb:∀ a ∈ T,a < S.words.length):HAt w' d { S with taken:=T }:=by
 have k1:But [d.gm] w w':=(But.refl _ _).turned k (by simp)
 exact h.turn (k1.mono (by simp)) (h.words.but k1 (by simp [h.apart3])) rfl hm hb
end HAt
structure Now (w0 w:World) (d:Hd) (S:Hp.Hs):Prop extends HAt w d S where
 but:But d.own w0 w
theorem Hd.L6a (d:Hd):d.gw ∈ d.own:=by simp [Hd.own]
theorem Hd.I7a (d:Hd):d.gm ∈ d.own:=by simp [Hd.own]
theorem Hd.S2a (d:Hd):d.hb ∈ d.own:=by simp [Hd.own]
namespace Now
variable {w0 w w':World} {d:Hd} {S:Hp.Hs}
theorem refl (h:HAt w d S):Now w w d S:=⟨h,But.refl _ _⟩
theorem ext (h:Now w0 w d S) (k:Ext w w'):Now w0 w' d S:=⟨h.toHAt.ext k,h.but.ext k⟩
theorem set (h:Now w0 w d S) {v:Int} (hw:Hp.wr S.words j v=some W) (h1 : -9223372036854775808<=v) (h2:v<=9223372036854775807):Now w0 (w.setCell ⟨d.gw,j,none⟩ (.int .i64 v)) d { S with words:=W }:=
 ⟨h.toHAt.set hw h1 h2,h.but.setCell (.inl d.L6a) _⟩
theorem clear (h:Now w0 w d S) (hw:Hp.zero S.words i n=some W):Now w0 (w.setCells d.gw i (List.replicate n (.int .i64 0))) d { S with words:=W }:=
 ⟨h.toHAt.clear hw,But.setCells (.inl d.L6a) _ _ h.but⟩
theorem mapped (h:Now w0 w d S) (k:w.mapTurned w' d.gm) (hm:MapAt prog w' d.gm T) (hb:∀ a ∈ T,a < S.words.length):Now w0 w' d { S with taken:=T }:=
 ⟨h.toHAt.mapped k hm hb,h.but.turned k (.inl d.I7a)⟩
theorem cut {P:Program} {c:Code} {Q:Exit->Act->World->Prop} {a:Act} (h:Now w0 w d S) (k:∀ w',Now w0 w' d S->c.wp P Q a w'):c.wp P Q a w:=k w h
end Now
def Turned (d:Hd) (w:World) (v:Value) (S:Hp.Hs) (e:Ending) (w':World):Prop:=e = .returned v/\HAt w' d S/\But d.own w w'
theorem Now.done {d:Hd} {S:Hp.Hs} {v:Value} (h:Now w0 w d S):Turned d w0 v S (.returned v) w:=⟨rfl,h.toHAt,h.but⟩
end Go.Proofs.YtdokmmhjmclmnaaGreat
