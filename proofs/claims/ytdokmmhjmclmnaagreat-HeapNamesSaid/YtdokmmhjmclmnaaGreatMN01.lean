/-
  Part 1 of a proof: Kit CopyK HModel HRel HMap HFn1 HAt RegSeq HLive.
-/
import Derived.BigQuiet
import Derived.Deep.DeepCutAuto
import Derived.Deep.LoopGhost
import Derived.Deep.QuietTactic
import Derived.Deep.RegionHeld3
import Derived.Deep.RegionLaw
import Derived.Handy
import Derived.Laws.CopyOwn
import Derived.Lib.Hide
import Derived.Lib.SliceRun
import Derived.Maps.Ext
import Derived.Maps.OwnSet
import Derived.OwnWalkIn
import Derived.RangeFuncFrom
import Derived.Shelf.Abstract
import Derived.Test.YtdokmmhjmclmnaaGreatRows
import Derived.WalkKit
import Derived.WalkLawsBesides
import Derived.WalkSpells
set_option linter.unusedSimpArgs false
set_option linter.unusedVariables false
set_option linter.unusedSectionVars false
set_option linter.unnecessarySimpa false
namespace Go.Proofs.YtdokmmhjmclmnaaGreat
open Go.RowKit
theorem setCell_same_block {w:World} {p:Addr} {u:Value} (hc:w.cell? p=some u) (k:Nat):(w.setCell p u).heap[k]? = w.heap[k]? := by
 simp only [World.setCell,Array.getElem?_modify]
 by_cases hk:p.block=k
 · rw [if_pos hk];subst hk;unfold World.cell? at hc
   cases ho:w.heap[p.block]? with
   | none=>rfl
   | some o=>
    cases o with
    | cells c t fr=>
     rw [ho] at hc;simp only at hc
     by_cases hs:p.spot.isSome
     · simp [hs]
     · rw [if_neg hs] at hc;simp only [Option.map_some,if_neg hs];obtain ⟨hlt,hv⟩:=Array.getElem?_eq_some_iff.1 hc;rw [show c.setIfInBounds p.off u=c from by
        apply Array.ext
        · simp
        · intro i h1 h2;rw [Array.getElem_setIfInBounds]
          split
          · next e=>subst e;exact hv.symm
          · rfl]
    | _=>rfl
 · rw [if_neg hk]
def Ext (w w':World):Prop:=Below w.heap.size w w'
theorem Ext.refl (w:World):Ext w w:=Below.refl _ _
theorem Ext.le {w w':World} (h:Ext w w'):w.heap.size ≤ w'.heap.size:=Below.size h
theorem Ext.trans {a b c:World} (h:Ext a b) (k:Ext b c):Ext a c:=Below.trans h (Below.mono k h.le)
theorem Ext.alloc {a w:World} (h:Ext a w) (o:Obj):Ext a (w.alloc o):=Below.alloc h h.le o
theorem Ext.drew {a w:World} (h:Ext a w):Ext a w.drew:=Below.drew h
theorem Ext.drewN {a w:World} (h:Ext a w) (n:Nat):Ext a (w.drewN n):=⟨h.os,h.tape,h.output,h.size,h.block⟩
theorem Ext.setCell {a w:World} (h:Ext a w) {p:Addr} (hp:a.heap.size ≤ p.block) (u:Value):Ext a (w.setCell p u):=Below.setCell h hp u
theorem Ext.cell {w w':World} (h:Ext w w') {b:Nat} (hb:b < w.heap.size) (o:Nat):w'.cell? ⟨b,o,none⟩=w.cell? ⟨b,o,none⟩:=Below.cell (p:=⟨b,o,none⟩) h hb
theorem Ext.frozen {w w':World} (h:Ext w w') {b:Nat} (hb:b < w.heap.size) (o:Nat):w'.frozen? ⟨b,o,none⟩=w.frozen? ⟨b,o,none⟩:=Below.frozen (p:=⟨b,o,none⟩) h hb
theorem Ext.cells {w w':World} (h:Ext w w'):(∀ b o,b < w.heap.size → w'.cell? ⟨b,o,none⟩=w.cell? ⟨b,o,none⟩) ∧ (∀ b o,b < w.heap.size → w'.frozen? ⟨b,o,none⟩=w.frozen? ⟨b,o,none⟩) ∧ w.heap.size ≤ w'.heap.size:=
 ⟨fun _ _ hb=>h.cell hb _,fun _ _ hb=>h.frozen hb _,h.le⟩
theorem exx {a b:World} (h:Ext a b:=by repeat' (first | (with_reducible exact Ext.refl _) | (with_reducible assumption) | (with_reducible refine Ext.alloc ?_ _) | (with_reducible refine Ext.drew ?_) | (with_reducible refine Ext.drewN ?_ _) | (with_reducible refine Ext.setCell ?_ ?_ _) | (with_reducible refine Ext.trans ?_ (by assumption)) | go_size)):Ext a b:=h
theorem layy {p q:Prop} (h:q) (e:p=q:=by first | (simp only [List.getElem_toArray,List.getElem_cons_zero,List.getElem_cons_succ,Act.put,List.setIfInBounds_toArray,List.set_cons_zero,List.set_cons_succ];exact rfl) | exact rfl):p:=e.mpr h
theorem heap_new (w:World) (o:Obj):(w.alloc o).heap[w.heap.size]? = some o:=by
 show (w.heap.push o)[w.heap.size]? = _
 simp
theorem run_copy_rowK {P:Program} (w:World) (dT sT ty elem:TypeId) (sz:Nat) (g o dLen dCap:Nat) (a:Addr) (sLen sCap:Nat) (cur:Array Value) (t:TypeId) (cs:List Value)
    (hu:P.underlying dT=some (.slice elem)) (hs:(P.info? elem).map (·.size)=some sz)
    (hg:w.heap[g]? = some (.cells cur t (0,0))) (hn:cs.length=Nat.min sLen dLen * sz)
    (hsrc:∀ j v,cs[j]? = some v → w.cell? (a.add j)=some v) (hfit:o+cs.length ≤ cur.size) (h1:∀ v ∈ cs,v.oneCell'=true) :
    (Builtin.copy_ #[dT,sT] ty #[.slice (some ⟨g,o,none⟩) dLen dCap,.slice (some a) sLen sCap]).run P w =
     .ok (goInt (Nat.min sLen dLen:Nat)) (w.setRow g (cur.toList.take o ++ cs ++ cur.toList.drop (o+cs.length)).toArray):=by
  have hl:=run_loadCells_list (P:=P) w a cs hsrc;have hst:=run_storeCells_at P g o t cs 0 cur w hg (by simpa using hfit) h1
  cases hq:P.info? elem with
  | none=>simp [hq] at hs
  | some i=>
   have hi:i.size=sz:=by simpa [hq] using hs
   simp [Builtin.copy_,run_underlying hu,Builtin.lenOf,Builtin.firstCells,sizeOf,typeInfo,hq,hi,← hn,hl,hst]
namespace Hp
structure Hs where
 sizes:List Int
 order:List Int
 words:List Int
 taken:List Nat
deriving DecidableEq
def adr (x:Int):Option Nat:=if 0 ≤ x then some x.toNat else none
def ck (x:Int):Option Int:=if -4611686018427387904 < x ∧ x < 4611686018427387904 then some x else none
def rd (W:List Int) (i:Nat):Option Int:=W[i]?
def ra (W:List Int) (i:Nat):Option Nat:=(rd W i).bind adr
def rc (W:List Int) (i:Nat):Option Int:=(rd W i).bind ck
def wr (W:List Int) (i:Nat) (v:Int):Option (List Int):=if i < W.length then some (W.set i v) else none
def sub (W:List Int) (i n:Nat):Option (List Int):=if i+n ≤ W.length then some ((W.drop i).take n) else none
def zero (W:List Int) (i n:Nat):Option (List Int):=if i+n ≤ W.length then some (W.take i ++ List.replicate n 0 ++ W.drop (i+n)) else none
def lay (W:List Int) (i:Nat) (l:List Int):Option (List Int):=if i+l.length ≤ W.length then some (W.take i ++ (l ++ W.drop (i+l.length))) else none
def within (least most n:Int):Bool:=decide (least ≤ n) && decide (n ≤ most)
def isEnd (tag:Int):Bool:=within 20 24 tag
def isNode (sizes:List Int) (tag:Int):Bool:=within 1 sizes.length tag
def index (l:List Int) (x:Int):Int:=match l.findIdx? (· == x) with | some i=>i | none=>-1
def rank (order:List Int) (tag:Int):Int:=if isEnd tag then order.length else index order (tag-1)
def wide (sizes:List Int) (tag:Int):Option Nat:=if isEnd tag then some 5 else do return 4+(← ra sizes (← adr (tag-1)))
def sums:List Int → Int → Int → Option Int
 | [],_,n=>some n
 | f :: r,i,n=>do sums r (i+1) (← ck (n+(i+1) * (← ck f)))
def chain (tag:Int) (fields:List Int):Option Nat:=do return ((← sums fields 0 (← ck (7 * (← ck tag)))) % 16).toNat
namespace Hs
variable (S:Hs)
def tag (a:Nat):Option Int:=rd S.words a
def wideAt (a:Nat):Option Nat:=do wide S.sizes (← S.tag a)
def fields (a:Nat):Option (List Int):=do sub S.words (a+4) ((← S.wideAt a)-4)
def kids (a:Nat):Option (List Int):=do if isEnd (← S.tag a) then some [] else S.fields a
def has (a:Int):Bool:=decide (0 ≤ a) && S.taken.contains a.toNat
def fuel:Nat:=S.words.length+1
def lookFrom (tag:Int) (fields:List Int):Nat → Nat → Option Nat
 | 0,_=>none
 | n+1,a=>do
  if a=0 then some 0 else
  if (← S.tag a)=tag ∧ (← S.fields a)=fields then some a else
  lookFrom tag fields n (← ra S.words (a+3))
def look (tag:Int) (fields:List Int):Option Nat:=do S.lookFrom tag fields S.fuel (← ra S.words (← chain tag fields))
def takeFrom (W:List Int) (wide:Nat):Nat → Nat → Option (Nat × List Int)
 | 0,_=>none
 | n+1,link=>do
  let a ← ra W link
  if a=0 then some (0,W) else
  let w ← rc W (a+1)
  let next ← rd W (a+2)
  if w-wide=0 then
   some (a,← zero (← wr W link next) a wide)
  else if 3 ≤ w-wide then
   let rest:=a+wide
   let W ← wr W rest 0
   let W ← wr W (rest+1) (w-wide)
   let W ← wr W (rest+2) next
   let W ← wr W link rest
   some (a,← zero W a wide)
  else takeFrom W wide n (a+2)
def take (wide:Nat):Option (Nat × List Int):=takeFrom S.words wide S.fuel 16
def insert (x:Nat):List Nat → List Nat
 | []=>[x]
 | y :: r=>if x < y then x :: y :: r else if x=y then y :: r else y :: insert x r
def use (by':Int):Nat → Nat → List Int → Option (List Int)
 | 0,_,W=>some W
 | n+1,j,W=>do
  let k ← ra W j
  use by' n (j+1) (← wr W (k+1) ((← rc W (k+1))+by'))
def add (tag:Int) (fields:List Int):Option (Nat × Hs):=do
 let at0 ← S.look tag fields
 if at0 ≠ 0 then some (at0,S) else
 let (a,W) ← S.take (← wide S.sizes tag)
 if a=0 then some (0,{ S with words:=W }) else
 let head ← chain tag fields
 let h ← rd W head
 let W ← wr (← wr W a tag) (a+3) h
 let W ← lay W (a+4) fields
 let W ← wr W head a
 let S1:Hs:={ S with words:=W,taken:=insert a S.taken }
 let W ← use 1 (← S1.kids a).length (a+4) W
 some (a,{ S1 with words:=W })
def full (r:Nat × Hs):Int × Int × Hs:=if r.1=0 then (0,8,r.2) else (r.1,0,r.2)
def end' (fault n:Int):Option (Int × Int × Hs):=do
 if fault > 4 ∨ (fault > 0 ∧ n ≠ 0) ∨ within (-9999) 9999 n=false then some (0,4,S) else
 return full (← S.add (20+fault) [n])
def laters (choice:Int):List Int → Option Bool
 | []=>some true
 | k :: r=>do if rank S.order (← ck (← S.tag (← adr k))) > rank S.order (choice+1) then laters choice r else some false
def checkNode (choice:Int) (kids:List Int):Option Int:=do
 if within 0 (S.sizes.length-1) choice=false then some 3 else
 if (kids.length:Int) ≠ (← rd S.sizes choice.toNat) then some 4 else
 if kids.all S.has=false then some 7 else
 if (← S.laters choice kids)=false then some 2 else some 0
def alike (l:List Int):Bool:=l.all (· == l.headD 0)
def make (choice:Int) (kids:List Int):Option (Int × Int × Hs):=do
 let e ← S.checkNode choice kids
 if e ≠ 0 then some (0,e,S) else
 if alike kids then some ((← kids.head?),0,S) else
 return full (← S.add (choice+1) kids)
def find (choice:Int) (kids:List Int):Option (Int × Int):=do
 let e ← S.checkNode choice kids
 if e ≠ 0 then some (0,e) else
 if alike kids then some ((← kids.head?),0) else
 let a ← S.look (choice+1) kids
 if a=0 then some (0,7) else some (a,0)
def hold (a:Int):Option (Int × Hs):=do
 if S.has a=false then some (7,S) else
 return (0,{ S with words:=(← wr S.words (a.toNat+2) ((← rc S.words (a.toNat+2))+1)) })
def drop (a:Int):Option (Int × Hs):=do
 if S.has a=false then some (7,S) else
 let n ← rc S.words (a.toNat+2)
 if n=0 then some (9,S) else
 return (0,{ S with words:=(← wr S.words (a.toNat+2) (n-1)) })
def adrs (l:List Int):Option (List Nat):=l.mapM adr
def markFrom:Nat → List Nat → List Nat → Option (List Nat)
 | _,L,[]=>some L
 | 0,_,_ :: _=>none
 | n+1,L,a :: r=>do if L.contains a then markFrom n L r else markFrom n (insert a L) ((← adrs (← S.kids a)) ++ r)
def held:List Nat → Option (List Nat)
 | []=>some []
 | a :: r=>do let l ← held r;if (← rd S.words (a+2)) > 0 then some (a :: l) else some l
def live:Option (List Nat):=do S.markFrom (S.words.length+S.words.length+1) [] (← S.held S.taken)
def unlinkFrom (live:List Nat):Nat → List Int → Nat → Option (List Int)
 | 0,_,_=>none
 | n+1,W,link=>do
  let a ← ra W link
  if a=0 then some W else
  if live.contains a then unlinkFrom live n W (a+3) else
  unlinkFrom live n (← wr W link (← rd W (a+3))) link
def unlinks (live:List Nat) (n:Nat):List Int → List Nat → Option (List Int)
 | W,[]=>some W
 | W,l :: r=>do unlinks live n (← unlinkFrom live n W l) r
def unlink (live:List Nat):Option Hs:=do return { S with words:=(← unlinks live S.fuel S.words (List.range 16)) }
def seek (W:List Int) (a:Nat):Nat → Nat → Nat → Option (Nat × Nat)
 | 0,_,_=>none
 | n+1,before,link=>do
  let next ← ra W link
  if next ≠ 0 ∧ next < a then seek W a n next (next+2) else some (before,link)
def free (a:Nat):Option Hs:=do
 let wide ← S.wideAt a
 let W ← zero S.words a wide
 let T:=S.taken.erase a
 let (before,link) ← seek W a S.fuel 0 16
 let next ← rd W link
 let (wide,next,W) ← (if next=((a+wide:Nat):Int) then do
     let after ← rd W (a+wide+2)
     let w ← rc W (a+wide+1)
     some (← ck (wide+w),after,← wr (← wr W (a+wide+1) 0) (a+wide+2) 0)
   else some ((wide:Int),next,W):Option (Int × Int × List Int))
 let joined ← (if before ≠ 0 then do some (decide (before+(← rc W (before+1))=a)) else some false:Option Bool)
 if joined then
  let w ← rc W (before+1)
  return { S with words:=(← wr (← wr W (before+1) (w+wide)) (before+2) next),taken:=T }
 else
  return { S with words:=(← wr (← wr (← wr W (a+1) wide) (a+2) next) link a),taken:=T }
def frees:Hs → List Nat → Option Hs
 | S,[]=>some S
 | S,a :: r=>do frees (← S.free a) r
def unuse:Hs → List Nat → Option Hs
 | S,[]=>some S
 | S,a :: r=>do unuse { S with words:=(← use (-1) (← S.kids a).length (a+4) S.words) } r
def collect:Option (Nat × Hs):=do
 let live ← S.live
 let S1 ← S.unlink live
 let dead:=S1.taken.filter (fun a=>!live.contains a)
 let S2 ← unuse S1 dead
 let S3 ← frees S2 dead
 some (dead.length,S3)
def moveFrom (S:Hs):List Nat → List Int → Nat → Option (List Int × Nat × List (Nat × Nat))
 | [],W,next=>some (W,next,[])
 | a :: r,W,next=>do
  let wide ← S.wideAt a
  let W ← lay W next (← sub S.words a wide)
  let (W,n,m) ← moveFrom S r W (next+wide)
  some (W,n,(a,next) :: m)
def goes (m:List (Nat × Nat)) (a:Int):Int:=if a < 0 then 0 else (m.lookup a.toNat).getD 0
def relink (m:List (Nat × Nat)):Hs → List Nat → Option Hs
 | S,[]=>some S
 | S,a :: r=>do
  let tt ← m.lookup a
  let S:={ S with taken:=insert tt S.taken }
  let k ← S.kids tt
  let W ← lay S.words (tt+4) (k.map (goes m))
  let S:={ S with words:=W }
  let head ← chain (← S.tag tt) (← S.fields tt)
  let W ← wr S.words (tt+3) (← rd S.words head)
  let W ← wr W head tt
  relink m { S with words:=W } r
def move:Option (List (Nat × Nat) × Hs):=do
 let (W,next,m) ← moveFrom S S.taken (List.replicate S.words.length 0) 17
 let S1 ← relink m { S with words:=W,taken:=[] } S.taken
 if next < W.length then
  return (m,{ S1 with words:=(← wr (← wr S1.words 16 next) (next+1) (W.length-next)) })
 else some (m,S1)
end Hs
def new (sizes order:List Int) (words:Nat):Option Hs:=do
 let W ← wr (List.replicate words 0) 16 17
 let W ← wr W 18 (words-17)
 some ⟨sizes,order,W,[]⟩
end Hp
open Go.RowKit
structure But (l:List Nat) (w w':World):Prop where
 os:w'.os=w.os
 tape:w'.tape=w.tape
 output:w'.output=w.output
 size:w.heap.size ≤ w'.heap.size
 block:∀ k,k < w.heap.size → k ∉ l → w'.heap[k]? = w.heap[k]?
namespace But
variable {l:List Nat} {a b c w w':World}
theorem refl (l:List Nat) (w:World):But l w w:=⟨rfl,rfl,rfl,Nat.le_refl _,fun _ _ _=>rfl⟩
theorem ofExt (h:Ext w w'):But l w w':=⟨h.os,h.tape,h.output,h.size,fun k hk _=>h.block k hk⟩
theorem trans (h:But l a b) (k:But l b c):But l a c:=
 ⟨k.os.trans h.os,k.tape.trans h.tape,k.output.trans h.output,Nat.le_trans h.size k.size,fun i hi hn=>(k.block i (Nat.lt_of_lt_of_le hi h.size) hn).trans (h.block i hi hn)⟩
theorem mono {l':List Nat} (h:But l w w') (hl:∀ x ∈ l,x ∈ l'):But l' w w':=⟨h.os,h.tape,h.output,h.size,fun i hi hn=>h.block i hi (fun hm=>hn (hl i hm))⟩
theorem ext (h:But l a w) (k:Ext w w'):But l a w':=h.trans (ofExt k)
theorem drew (h:But l a w):But l a w.drew:=⟨h.os,h.tape,h.output,h.size,h.block⟩
theorem drewN (h:But l a w) (n:Nat):But l a (w.drewN n):=⟨h.os,h.tape,h.output,h.size,h.block⟩
theorem alloc (h:But l a w) (o:Obj):But l a (w.alloc o):=h.ext (Ext.alloc (Ext.refl _) o)
theorem setCell (h:But l a w) {p:Addr} (hp:p.block ∈ l ∨ a.heap.size ≤ p.block) (u:Value):But l a (w.setCell p u):=
 ⟨h.os,h.tape,h.output,by simpa [World.setCell] using h.size,fun k hk hn=>by
  rw [Below.heap_setCell _ _ _ _ (by rintro rfl;rcases hp with hp | hp;exact hn hp;omega)];exact h.block k hk hn⟩
theorem setCells {g:Nat} (hg:g ∈ l ∨ a.heap.size ≤ g):∀ (vs:List Value) (o:Nat) {w:World},But l a w → But l a (w.setCells g o vs)
 | [],_,_,h=>h
 | v :: r,o,_,h=>setCells hg r (o+1) (h.setCell (p:=⟨g,o,none⟩) hg v)
theorem setRow (h:But l a w) {g:Nat} (hg:g ∈ l ∨ a.heap.size ≤ g) (cs:Array Value):But l a (w.setRow g cs):=
 ⟨h.os,h.tape,h.output,by simpa [World.setRow] using h.size,fun k hk hn=>by
  rw [setRow_other _ _ _ _ (by rintro rfl;rcases hg with hp | hp;exact hn hp;omega)];exact h.block k hk hn⟩
theorem turned (h:But l a w) {g:Nat} (k:w.mapTurned w' g) (hg:g ∈ l ∨ a.heap.size ≤ g):But l a w':=by
 have q:=k.grown
 refine ⟨q.os.trans h.os,q.tape.trans h.tape,q.output.trans h.output,Nat.le_trans h.size q.size,fun i hi hn=>?_⟩
 rw [q.block i (Nat.lt_of_lt_of_le hi h.size) (by simp;rintro rfl;rcases hg with hp | hp;exact hn hp;omega)]
 exact h.block i hi hn
theorem cell (h:But l w w') {g:Nat} (hg:g < w.heap.size) (hn:g ∉ l) (o:Nat):w'.cell? ⟨g,o,none⟩=w.cell? ⟨g,o,none⟩:=by
 simp only [World.cell?,h.block g hg hn]
theorem frozen (h:But l w w') {g:Nat} (hg:g < w.heap.size) (hn:g ∉ l) (o:Nat):w'.frozen? ⟨g,o,none⟩=w.frozen? ⟨g,o,none⟩:=by
 simp only [World.frozen?,h.block g hg hn]
theorem toExt {w0:World} (h0:Ext w0 w) (h:But l w w') (hl:∀ x ∈ l,w0.heap.size ≤ x):Ext w0 w':=
 ⟨h.os.trans h0.os,h.tape.trans h0.tape,h.output.trans h0.output,Nat.le_trans h0.size h.size,fun k hk=>(h.block k (Nat.lt_of_lt_of_le hk h0.size) (fun hm=>by have:=hl k hm;omega)).trans (h0.block k hk)⟩
end But
def ints (l:List Int):List Value:=l.map (Value.int .i64)
theorem ints_length (l:List Int):(ints l).length=l.length:=by simp [ints]
structure WordsAt (w:World) (g:Nat) (W:List Int):Prop where
 row:∃ slack:List Value,w.heap[g]? = some (.cells (ints W ++ slack).toArray 3 (0,0))
 wf:∀ x ∈ W,-9223372036854775808 ≤ x ∧ x ≤ 9223372036854775807
theorem heap_setCells {g:Nat} {t:TypeId}:∀ (vs:List Value) (o:Nat) (cur:List Value) (w:World),w.heap[g]? = some (.cells cur.toArray t (0,0)) → o+vs.length ≤ cur.length →
    (w.setCells g o vs).heap[g]? = some (.cells (splice cur o vs).toArray t (0,0))
  | [],o,cur,w,hg,_=>by simpa [World.setCells,splice] using hg
  | v :: r,o,cur,w,hg,hl=>by
   have hl':o+(r.length+1) ≤ cur.length:=by simpa using hl
   have h1:(w.setCell ⟨g,o,none⟩ v).heap[g]? = some (.cells (cur.set o v).toArray t (0,0)):=by
    rw [setCell_eq_setRow w g o cur.toArray t (0,0) v hg,setRow_heap w g _ _ t _ hg];simp
   have ih:=heap_setCells r (o+1) (cur.set o v) _ h1 (by simp;omega);rw [World.setCells,ih]
   congr 3
   have e:=list_seg_step cur o v r hl';unfold splice;rw [← List.append_assoc,← List.append_assoc,e];simp
namespace WordsAt
variable {w w':World} {g:Nat} {W W':List Int}
theorem lt (h:WordsAt w g W):g < w.heap.size:=by
 obtain ⟨s,hg⟩:=h.row
 exact (Array.getElem?_eq_some_iff.1 hg).1
theorem get (h:WordsAt w g W) {j:Nat} {x:Int} (hx:Hp.rd W j=some x):w.cell? ⟨g,j,none⟩=some (.int .i64 x):=by
 obtain ⟨s,hg⟩:=h.row
 unfold Hp.rd at hx
 obtain ⟨hl,e⟩:=List.getElem?_eq_some_iff.1 hx
 have h2:(ints W ++ s)[j]? = some (.int .i64 x):=by
  rw [List.getElem?_append_left (by simpa [ints] using hl)];simp [ints,hx]
 simpa [World.cell?,hg] using h2
theorem froz (h:WordsAt w g W) (j:Nat):w.frozen? ⟨g,j,none⟩=false:=by
 obtain ⟨s,hg⟩:=h.row
 simp [World.frozen?,hg]
theorem bound (h:WordsAt w g W) {j:Nat} {x:Int} (hx:Hp.rd W j=some x) : -9223372036854775808 ≤ x ∧ x ≤ 9223372036854775807:=h.wf x (List.mem_of_getElem? hx)
theorem ofBlock (h:WordsAt w g W) (e:w'.heap[g]? = w.heap[g]?):WordsAt w' g W:=⟨by rw [e];exact h.row,h.wf⟩
theorem but (h:WordsAt w g W) {l:List Nat} (k:But l w w') (hg:g ∉ l):WordsAt w' g W:=h.ofBlock (k.block g h.lt hg)
theorem ext (h:WordsAt w g W) (k:Ext w w'):WordsAt w' g W:=h.ofBlock (k.block g h.lt)
theorem set (h:WordsAt w g W) {j:Nat} {v:Int} (hw:Hp.wr W j v=some W') (h1 : -9223372036854775808 ≤ v) (h2:v ≤ 9223372036854775807):WordsAt (w.setCell ⟨g,j,none⟩ (.int .i64 v)) g W':=by
 obtain ⟨s,hg⟩:=h.row
 unfold Hp.wr at hw
 split at hw
 case isFalse=>cases hw
 rename_i hl
 cases hw
 refine ⟨⟨s, ?_⟩,fun x hx=>?_⟩
 · rw [setCell_eq_setRow w g j _ _ _ _ hg,setRow_heap w g _ _ _ _ hg];simp [ints,hl,List.set_append_left,List.map_set]
 · rcases List.mem_or_eq_of_mem_set hx with hx | rfl
   · exact h.wf x hx
   · exact ⟨h1,h2⟩
theorem spliced (h:WordsAt w g W) {i:Nat} {cs:List Int} (hw:Hp.lay W i cs=some W') (hc:∀ x ∈ cs,-9223372036854775808 ≤ x ∧ x ≤ 9223372036854775807)
    (hr:∀ cur:List Value,w.heap[g]? = some (.cells cur.toArray 3 (0,0)) → i+cs.length ≤ cur.length → w'.heap[g]? = some (.cells (splice cur i (ints cs)).toArray 3 (0,0))):WordsAt w' g W':=by
  obtain ⟨s,hg⟩:=h.row;unfold Hp.lay at hw
  split at hw
  case isFalse=>cases hw
  rename_i hl
  cases hw
  refine ⟨⟨s, ?_⟩,fun x hx=>?_⟩
  · rw [hr _ hg (by simp [ints];omega)]
    congr 3
    simp only [splice,ints,List.length_map,List.map_append,List.map_take,List.map_drop];rw [List.take_append_of_le_length (by simp;omega),List.drop_append_of_le_length (by simp;omega)];simp
  · simp only [List.mem_append] at hx
    rcases hx with hx | hx | hx
    · exact h.wf x (List.mem_of_mem_take hx)
    · exact hc x hx
    · exact h.wf x (List.mem_of_mem_drop hx)
theorem clear (h:WordsAt w g W) {i n:Nat} (hw:Hp.zero W i n=some W'):WordsAt (w.setCells g i (List.replicate n (.int .i64 0))) g W':=by
 refine h.spliced (i:=i) (cs:=List.replicate n 0) ?_ ?_ ?_
 · unfold Hp.lay;unfold Hp.zero at hw
   simpa using hw
 · intro x hx;rw [List.eq_of_mem_replicate hx];omega
 · intro cur hg hl;rw [show ints (List.replicate n 0)=List.replicate n (.int .i64 0) by simp [ints]];exact heap_setCells _ i cur w hg (by simpa using hl)
end WordsAt
def mapOf (T:List Nat):DataW Unit:=.map (T.map fun k:Nat=>(Lit.int .i64 (k:Int),DataW.lit (.bool true)))
def hasLit (T:List Nat):Lit → Bool
 | .int .i64 k=>decide (0 ≤ k) && T.contains k.toNat
 | _=>false
open Go.Maps in
theorem has_mapOf (T:List Nat) (k:Lit):Maps.has (mapOf T) k=hasLit T k:=by
 unfold mapOf
 rw [has_eq]
 induction T with
 | nil => cases k <;> try rfl
          case int q a=>cases q <;> simp [hasLit]
 | cons a r ih=>
  rw [List.map_cons,List.any_cons,ih]
  cases k
  case int q b=>
   cases q <;> simp [Lit.sameKey,hasLit]
   by_cases hb:0 ≤ b
   · simp [hb]
     by_cases e:(a:Int)=b
     · subst e;simp
     · have:¬ b.toNat=a:=by omega
       simp [e,this]
   · have:¬ (a:Int)=b:=by omega
     simp [hb,this]
  all_goals simp [Lit.sameKey,hasLit]
theorem at_mapOf_true {T:List Nat} {k:Lit} (h:hasLit T k=true) (z:DataW Unit):(mapOf T).atKey k z = .lit (.bool true):=by
 rw [← has_mapOf] at h
 unfold mapOf at h ⊢
 rw [Maps.has_eq] at h
 unfold DataW.atKey
 simp only
 cases hf:(T.map fun k:Nat=>(Lit.int .i64 (k:Int),(DataW.lit (.bool true):DataW Unit))).find? (fun p=>p.1.sameKey k) with
 | none=>
  rw [List.find?_eq_none] at hf;rw [List.any_eq_true] at h;obtain ⟨p,hp,hk⟩:=h;exact absurd hk (hf p hp)
 | some p=>
  obtain ⟨n,_,rfl⟩:=List.mem_map.1 (List.mem_of_find?_eq_some hf);rfl
theorem at_mapOf_false {T:List Nat} {k:Lit} (h:hasLit T k=false) (z:DataW Unit):(mapOf T).atKey k z=z:=
 Maps.atKey_of_not_has (by rw [has_mapOf];exact h) z
theorem size_mapOf (T:List Nat):Maps.size (mapOf T)=T.length:=by simp [mapOf,Maps.size_eq]
theorem canon_mapOf {T:List Nat} (h:T.Pairwise (· < ·)):Maps.Canon (mapOf T):=by
 refine ⟨_,rfl, ?_, ?_⟩
 · rw [List.pairwise_map];exact h.imp (fun {a b} hab=>by simpa [Lit.before] using hab)
 · intro p hp;obtain ⟨k,_,rfl⟩:=List.mem_map.1 hp
   trivial
open Go.RowKit Go.Maps
theorem mem_ins (a x:Nat):∀ T:List Nat,x ∈ Hp.Hs.insert a T ↔ x=a ∨ x ∈ T
 | []=>by simp [Hp.Hs.insert]
 | y :: r=>by
  unfold Hp.Hs.insert
  split
  · simp
  · split
    · rename_i h;subst h;simp
    · rw [List.mem_cons,mem_ins a x r,List.mem_cons];constructor
      · rintro (h | h | h) <;> simp [h]
      · rintro (h | h | h) <;> simp [h]
theorem sorted_ins (a:Nat):∀ {T:List Nat},T.Pairwise (· < ·) → (Hp.Hs.insert a T).Pairwise (· < ·)
 | [],_=>by simp [Hp.Hs.insert]
 | y :: r,h=>by
  obtain ⟨h1,h2⟩:=List.pairwise_cons.1 h;unfold Hp.Hs.insert
  split
  · rename_i hl;refine List.pairwise_cons.2 ⟨fun q hq=>?_,h⟩
    rcases List.mem_cons.1 hq with rfl | hq
    · exact hl
    · exact Nat.lt_trans hl (h1 q hq)
  · split
    · exact h
    · refine List.pairwise_cons.2 ⟨fun q hq=>?_,sorted_ins a h2⟩
      rcases (mem_ins a q r).1 hq with rfl | hq
      · omega
      · exact h1 q hq
theorem hasLit_iff (T:List Nat) (k:Lit):hasLit T k=true ↔ ∃ n:Nat,n ∈ T ∧ k = .int .i64 n:=by
 constructor
 · intro h;unfold hasLit at h
   split at h
   · rename_i b;simp at h;exact ⟨b.toNat,h.2,by rw [Int.toNat_of_nonneg h.1]⟩
   · cases h
 · rintro ⟨n,hn,rfl⟩;simp [hasLit,hn]
theorem hasLit_int (T:List Nat) (n:Nat):hasLit T (.int .i64 n)=T.contains n:=by simp [hasLit]
theorem bool_eq {a b:Bool} (h:a=true ↔ b=true):a=b:=by cases a <;> cases b <;> simp_all
theorem mapOf_put {T:List Nat} (hs:T.Pairwise (· < ·)) (a:Nat) (hc:Canon ((mapOf T).put (.int .i64 a) (.lit (.bool true)))):(mapOf T).put (.int .i64 a) (.lit (.bool true))=mapOf (Hp.Hs.insert a T):=by
 have key:∀ k,Maps.has ((mapOf T).put (.int .i64 a) (.lit (.bool true))) k=hasLit (Hp.Hs.insert a T) k:=by
  intro k;apply bool_eq;rw [hasLit_iff]
  by_cases e:k = .int .i64 a
  · subst e;rw [has_put_same (D:=mapOf T) (k:=.int .i64 (a:Int)) ⟨_,rfl⟩ (by exact True.intro)];simp only [true_iff];exact ⟨a,(mem_ins a a T).2 (Or.inl rfl),rfl⟩
  · rw [has_put_other e,has_mapOf,hasLit_iff];constructor
    · rintro ⟨n,hn,rfl⟩;exact ⟨n,(mem_ins a n T).2 (Or.inr hn),rfl⟩
    · rintro ⟨n,hn,rfl⟩
      rcases (mem_ins a n T).1 hn with rfl | hn
      · exact absurd rfl e
      · exact ⟨n,hn,rfl⟩
 refine Maps.ext hc (canon_mapOf (sorted_ins a hs)) (fun k=>by rw [key,has_mapOf]) (fun k z hk=>?_)
 rw [key] at hk
 rw [at_mapOf_true hk]
 by_cases e:k = .int .i64 a
 · subst e;exact atKey_put_same (k:=.int .i64 (a:Int)) ⟨_,rfl⟩ (by exact True.intro) _ _
 · rw [atKey_put_other e];refine at_mapOf_true ?_ z;rw [hasLit_iff] at hk ⊢;obtain ⟨n,hn,rfl⟩:=hk
   rcases (mem_ins a n T).1 hn with rfl | hn
   · exact absurd rfl e
   · exact ⟨n,hn,rfl⟩
theorem mapOf_del {T:List Nat} (hs:T.Pairwise (· < ·)) (a:Nat) (hc:Canon ((mapOf T).del (.int .i64 a))):(mapOf T).del (.int .i64 a)=mapOf (T.erase a):=by
 have nd:T.Nodup:=hs.imp (fun h=>Nat.ne_of_lt h)
 have key:∀ k,Maps.has ((mapOf T).del (.int .i64 a)) k=hasLit (T.erase a) k:=by
  intro k;apply bool_eq;rw [hasLit_iff]
  by_cases e:k = .int .i64 a
  · subst e;rw [has_del_same];simp only [Bool.false_eq_true,false_iff];rintro ⟨n,hn,h⟩;have:a=n:=by simp at h;omega
    subst this;exact (nd.mem_erase_iff.1 hn).1 rfl
  · rw [has_del_other e,has_mapOf,hasLit_iff];constructor
    · rintro ⟨n,hn,rfl⟩;exact ⟨n,nd.mem_erase_iff.2 ⟨fun h=>e (by rw [h]),hn⟩,rfl⟩
    · rintro ⟨n,hn,rfl⟩;exact ⟨n,(nd.mem_erase_iff.1 hn).2,rfl⟩
 refine Maps.ext hc (canon_mapOf (hs.sublist List.erase_sublist)) (fun k=>by rw [key,has_mapOf]) (fun k z hk=>?_)
 rw [key] at hk
 rw [at_mapOf_true hk]
 have e:k ≠ .int .i64 a:=by
  rintro rfl;rw [hasLit_iff] at hk;obtain ⟨n,hn,h⟩:=hk;have:a=n:=by simp at h;omega
  subst this;exact (nd.mem_erase_iff.1 hn).1 rfl
 rw [atKey_del_other e]
 refine at_mapOf_true ?_ z
 rw [hasLit_iff] at hk ⊢
 obtain ⟨n,hn,rfl⟩:=hk
 exact ⟨n,(nd.mem_erase_iff.1 hn).2,rfl⟩
theorem plainElem_bool_inv {P:Program} {e:TypeId} (he:P.underlying e=some .bool) {v:Value} {x:Bool} {ps:List MemPlace} (h:plainElem (H:=Unit) P e v=some (.lit (.bool x),ps)):v = .bool x:=by
 unfold plainElem at h
 rw [he] at h
 cases v <;> simp at h
 rw [h.1]
structure MapAt (P:Program) (w:World) (g:Nat) (T:List Nat):Prop where
 owns:w.ownsMap P 3 (plainElem (H:=Unit) P 4) g T.length (mapOf T)
 sorted:T.Pairwise (· < ·)
namespace MapAt
variable {P:Program} {w w':World} {g:Nat} {T:List Nat}
theorem lt (h:MapAt P w g T):g < w.heap.size:=h.owns.lt
theorem ofBlock (h:MapAt P w g T) (e:w'.heap[g]? = w.heap[g]?):MapAt P w' g T:=by
 refine ⟨?_,h.sorted⟩
 obtain ⟨es,clock,hb,r⟩:=h.owns
 exact ⟨es,clock,e.trans hb,r⟩
theorem but (h:MapAt P w g T) {l:List Nat} (k:But l w w') (hg:g ∉ l):MapAt P w' g T:=h.ofBlock (k.block g h.lt hg)
theorem ext (h:MapAt P w g T) (k:Ext w w'):MapAt P w' g T:=h.ofBlock (k.block g h.lt)
theorem tight {n:Nat} (h:w.ownsMap P 3 (plainElem (H:=Unit) P 4) g n (mapOf T)):w.ownsMap P 3 (plainElem (H:=Unit) P 4) g T.length (mapOf T):=by
 obtain ⟨es,clock,hb,F,hs,hD⟩:=h
 refine ⟨es,clock,hb,F, ?_,hD⟩
 have e:=size_mapOf T
 rw [hD] at e
 simp [Maps.size,length_sorted] at e
 omega
variable {t:TypeId}
theorem look (h:MapAt P w g T) (hk:P.underlying 3=some (.int .i64)) (he:P.underlying 4=some .bool) (ht:P.underlying t=some (.map 3 4)) (hz:(zeroValue 4).run P w = .ok (.bool false) w)
    {x:Int} (h1 : -9223372036854775808 ≤ x) (h2:x ≤ 9223372036854775807):(Instr.lookup t (.map (some g)) (.int .i64 x) false).run P w = .ok (.bool (hasLit T (.int .i64 x))) w:=by
  have wf:(Lit.int .i64 x).wf=true:=WalkArith.wf_i64 (by omega);obtain ⟨v,ps,hrun,hv⟩:=h.owns.lookup (int_keyed hk) ht hz (plainElem_bool he false) (keyOf_int_mk hk wf);rw [hrun]
  cases hh:hasLit T (.int .i64 x)
  · rw [at_mapOf_false hh] at hv;rw [plainElem_bool_inv he hv]
  · rw [at_mapOf_true hh] at hv;rw [plainElem_bool_inv he hv]
theorem put (h:MapAt P w g T) (hk:P.underlying 3=some (.int .i64)) (he:P.underlying 4=some .bool) (ht:P.underlying t=some (.map 3 4)) (hn:T.length < maxLen) {a:Nat} (ha:(a:Int) ≤ 9223372036854775807) :
    ∃ w',(Instr.mapUpdate t (.map (some g)) (.int .i64 a) (.bool true)).run P w = .ok () w' ∧ MapAt P w' g (Hp.Hs.insert a T) ∧ w.mapTurned w' g:=by
  have wf:(Lit.int .i64 a).wf=true:=WalkArith.wf_i64 (by omega);obtain ⟨w',hrun,ho,ht'⟩:=h.owns.store (int_keyed hk) ht hn (keyOf_int_mk hk wf) (plainElem_bool he true);refine ⟨w',hrun, ?_,ht'⟩;have hc:=ho.canon (int_keyed hk);rw [mapOf_put h.sorted a hc] at ho;exact ⟨tight ho,sorted_ins a h.sorted⟩
theorem del (h:MapAt P w g T) (hk:P.underlying 3=some (.int .i64)) (ht:P.underlying t=some (.map 3 4)) {a:Nat} (ha:(a:Int) ≤ 9223372036854775807) (ty:TypeId) :
    ∃ w',(Builtin.delete_ #[t,3] ty #[.map (some g),.int .i64 a]).run P w = .ok (.tuple #[]) w' ∧ MapAt P w' g (T.erase a) ∧ w.mapTurned w' g:=by
  have wf:(Lit.int .i64 a).wf=true:=WalkArith.wf_i64 (by omega);obtain ⟨w',hrun,ho,ht'⟩:=h.owns.drop (int_keyed hk) ht (keyOf_int_mk hk wf) ty;refine ⟨w',hrun, ?_,ht'⟩;have hc:=ho.canon (int_keyed hk);rw [mapOf_del h.sorted a hc] at ho;exact ⟨tight ho,h.sorted.sublist List.erase_sublist⟩
theorem len (h:MapAt P w g T) (ht:P.underlying t=some (.map 3 4)) (ty:TypeId):(Builtin.len_ #[t] ty #[.map (some g)]).run P w = .ok (.int .i64 T.length) w:=by
 rw [h.owns.len ht ty,size_mapOf]
end MapAt
open Go.RowKit
theorem within_any (a b n:Int) (w:World):Calls Tryz.prog 105 #[.int .i64 a,.int .i64 b,.int .i64 n] w fun e w'=>e = .returned (.bool (Hp.within a b n)) ∧ Ext w w':=by
 by_cases h1:a ≤ n
 · by_cases h2:n ≤ b
   · have e:Hp.within a b n=true:=by simp [Hp.within,h1,h2]
     rw [e];clear e;go_enter Tryz.func105,Tryz.ntmps105;go_wp2
     all_goals go_returns
     exact ⟨rfl,exx⟩
   · have e:Hp.within a b n=false:=by simp [Hp.within,h2]
     rw [e];clear e;go_enter Tryz.func105,Tryz.ntmps105;go_wp2
     all_goals go_returns
     exact ⟨rfl,exx⟩
 · have e:Hp.within a b n=false:=by simp [Hp.within,h1]
   rw [e];clear e;go_enter Tryz.func105,Tryz.ntmps105;go_wp2
   all_goals go_returns
   exact ⟨rfl,exx⟩
theorem isEnd_any (t:Int) (w:World):Calls Tryz.prog 78 #[.int .i64 t] w fun e w'=>e = .returned (.bool (Hp.isEnd t)) ∧ Ext w w':=by
 go_enter Tryz.func78,Tryz.ntmps78
 go_wp2_with (go_at_call 105;refine (within_any 20 24 t _).mono ?_;rintro e x ⟨rfl,y⟩)
 go_returns
 exact ⟨rfl,y⟩
theorem isEnd_is {t:Int} {b:Bool} (h:Hp.isEnd t=b) (w:World):Calls Tryz.prog 78 #[.int .i64 t] w fun e w'=>e = .returned (.bool b) ∧ Ext w w':=by
 subst h
 exact isEnd_any t w
theorem tag_any {hb gw n cap a:Nat} {x:Int} {W:List Int} {w:World} (c2:w.cell? ⟨hb,2,none⟩=some (.slice (some ⟨gw,0,none⟩) n cap)) (hn:n=W.length) (hc:n ≤ cap) (hb':cap ≤ 9223372036854775807) (hW:WordsAt w gw W) (hx:Hp.rd W a=some x) :
    Calls Tryz.prog 76 #[.pointer (some ⟨hb,0,none⟩),.int .i64 a] w fun e w'=>e = .returned (.int .i64 x) ∧ Ext w w':=by
  have g:=hW.get hx;have ha:a < n:=by
   unfold Hp.rd at hx;have:=(List.getElem?_eq_some_iff.1 hx).1;omega
  clear hW hx hn;go_enter Tryz.func76,Tryz.ntmps76;go_wp2;go_returns;exact ⟨rfl,exx⟩
structure SliceAt (w:World) (p:Option Addr) (c:Nat) (l:List Int):Prop where
 le:l.length ≤ c
 cap:c ≤ 9223372036854775807
 wf:∀ x ∈ l,-9223372036854775808 ≤ x ∧ x ≤ 9223372036854775807
 cells:0 < l.length → ∃ b o,p=some ⟨b,o,none⟩ ∧ b < w.heap.size ∧ ∀ j x,Hp.rd l j=some x → w.cell? ⟨b,o+j,none⟩=some (.int .i64 x)
theorem rd_lt {l:List Int} {j:Nat} {x:Int} (h:Hp.rd l j=some x):j < l.length:=by
 unfold Hp.rd at h
 exact (List.getElem?_eq_some_iff.1 h).1
theorem adr_some {x:Int} {n:Nat} (h:Hp.adr x=some n):x=n:=by
 unfold Hp.adr at h
 split at h
 · cases h;omega
 · cases h
theorem ra_some {l:List Int} {i n:Nat} (h:Hp.ra l i=some n):Hp.rd l i=some (n:Int):=by
 unfold Hp.ra at h
 obtain ⟨x,hx,h⟩:=Option.bind_eq_some_iff.1 h
 rw [hx,adr_some h]
theorem wide_some {sizes:List Int} {t:Int} {k:Nat} (h:Hp.wide sizes t=some k):(Hp.isEnd t=true ∧ k=5) ∨ (Hp.isEnd t=false ∧ ∃ i s:Nat,t=(i:Int)+1 ∧ Hp.rd sizes i=some (s:Int) ∧ k=4+s):=by
 unfold Hp.wide at h
 cases he:Hp.isEnd t
 · right;rw [he] at h;simp only [Bool.false_eq_true,if_false] at h;obtain ⟨i,hi,h⟩:=Option.bind_eq_some_iff.1 h;obtain ⟨s,hs,h⟩:=Option.bind_eq_some_iff.1 h;have hi:=adr_some hi;exact ⟨rfl,i,s,by omega,ra_some hs,by simpa using h.symm⟩
 · left;rw [he] at h
   simpa using h.symm
theorem isNode_any (p q:Option Addr) (n c m d:Nat) (t:Int) (w:World):Calls Tryz.prog 122 #[.agg #[.slice p n c,.slice q m d],.int .i64 t] w fun e w'=>e = .returned (.bool (Hp.within 1 n t)) ∧ Ext w w':=by
 go_enter Tryz.func122,Tryz.ntmps122
 go_wp2_with (go_at_call 105;refine (within_any 1 n t _).mono ?_;rintro e x ⟨rfl,y⟩)
 go_returns
 exact ⟨rfl,exx⟩
theorem wide_any {p q:Option Addr} {c m d k:Nat} {t:Int} {sizes:List Int} {w:World} (hS:SliceAt w p c sizes) (hk:Hp.wide sizes t=some k) (hb:k ≤ 9223372036854775807) :
    Calls Tryz.prog 123 #[.agg #[.slice p sizes.length c,.slice q m d],.int .i64 t] w fun e w'=>e = .returned (.int .i64 k) ∧ Ext w w':=by
  rcases wide_some hk with ⟨he,rfl⟩ | ⟨he,i,s,rfl,hs,rfl⟩
  · clear hS hk;go_enter Tryz.func123,Tryz.ntmps123
    go_wp2_with (go_at_call 78;refine (isEnd_is he _).mono ?_;rintro e x ⟨rfl,y⟩)
    refine bodyPost_ret (v:=.int .i64 5) (by simp [results,Tryz.results123,go_sem, *]) rfl ⟨rfl,exx⟩
  · have hi:=rd_lt hs;obtain ⟨b,o,rfl,hlt,hc⟩:=hS.cells (by omega);have g:=hc i s hs;have h1:=hS.le;have h2:=hS.cap;clear hS hc hk hs;generalize sizes.length=n at *;go_enter Tryz.func123,Tryz.ntmps123
    go_wp2_with (go_at_call 78;refine (isEnd_is he _).mono ?_;rintro e w1 ⟨rfl,hb1⟩;obtain ⟨hc1,hf1,hs1⟩:=hb1.cells;have hz1_0:w.heap.size < w1.heap.size:=(by have h:=hb1.le;(try simp at h);omega);have hc1_0:=hb1.cell (b:=w.heap.size) (by first | omega | (simp;done) | (simp;omega));have hf1_0:=hb1.frozen (b:=w.heap.size) (by first | omega | (simp;done) | (simp;omega));have y0:Ext w w1:=exx;have g':=(y0.cell hlt (o+i)).trans g)
    refine bodyPost_ret (v:=.int .i64 (4+s:Nat)) (by simp [results,Tryz.results123,go_sem, *]) rfl ⟨rfl,exx⟩
structure Hd where
 hb:Nat
 gw:Nat
 gm:Nat
 cap:Nat
 sp:Option Addr
 sc:Nat
 op:Option Addr
 oc:Nat
def Hd.own (d:Hd):List Nat:=[d.hb,d.gw,d.gm]
theorem cell_lt {w:World} {b o:Nat} {v:Value} (h:w.cell? ⟨b,o,none⟩=some v):b < w.heap.size:=by
 rcases Nat.lt_or_ge b w.heap.size with h' | h'
 · exact h'
 · simp [World.cell?,Array.getElem?_eq_none h'] at h
namespace SliceAt
variable {w w':World} {p:Option Addr} {c:Nat} {l:List Int}
theorem but (h:SliceAt w p c l) {bs:List Nat} (k:But bs w w') (hf:∀ b o,p=some ⟨b,o,none⟩ → b ∉ bs):SliceAt w' p c l:=by
 refine ⟨h.le,h.cap,h.wf,fun h0=>?_⟩
 obtain ⟨b,o,rfl,hb,hc⟩:=h.cells h0
 exact ⟨b,o,rfl,Nat.lt_of_lt_of_le hb k.size,fun j x hx=>(k.cell hb (hf b o rfl) _).trans (hc j x hx)⟩
theorem ext (h:SliceAt w p c l) (k:Ext w w'):SliceAt w' p c l:=h.but (But.ofExt (l:=[]) k) (by simp)
end SliceAt
structure HAt (w:World) (d:Hd) (S:Hp.Hs):Prop where
 c0:w.cell? ⟨d.hb,0,none⟩=some (.slice d.sp S.sizes.length d.sc)
 c1:w.cell? ⟨d.hb,1,none⟩=some (.slice d.op S.order.length d.oc)
 c2:w.cell? ⟨d.hb,2,none⟩=some (.slice (some ⟨d.gw,0,none⟩) S.words.length d.cap)
 c3:w.cell? ⟨d.hb,3,none⟩=some (.map (some d.gm))
 f2:w.frozen? ⟨d.hb,2,none⟩=false
 sizes:SliceAt w d.sp d.sc S.sizes
 order:SliceAt w d.op d.oc S.order
 words:WordsAt w d.gw S.words
 le:S.words.length ≤ d.cap
 cap:d.cap ≤ 9223372036854775807
 map:MapAt Tryz.prog w d.gm S.taken
 below:∀ a ∈ S.taken,a < S.words.length
 apart1:d.hb ≠ d.gw
 apart2:d.hb ≠ d.gm
 apart3:d.gw ≠ d.gm
 far1:∀ b o,d.sp=some ⟨b,o,none⟩ → b ∉ d.own
 far2:∀ b o,d.op=some ⟨b,o,none⟩ → b ∉ d.own
 pos:∀ s ∈ S.sizes,1 ≤ s ∧ s ≤ 12
 small:S.words.length ≤ 1000000
 few:S.sizes.length ≤ 6
 old1:∀ b o,d.sp=some ⟨b,o,none⟩ → b < w.heap.size
 old2:∀ b o,d.op=some ⟨b,o,none⟩ → b < w.heap.size
namespace HAt
variable {w w':World} {d:Hd} {S:Hp.Hs}
theorem lt (h:HAt w d S):d.hb < w.heap.size:=cell_lt h.c0
theorem ext (h:HAt w d S) (k:Ext w w'):HAt w' d S:=
 { h with
   c0:=(k.cell h.lt 0).trans h.c0
   c1:=(k.cell h.lt 1).trans h.c1
   c2:=(k.cell h.lt 2).trans h.c2
   c3:=(k.cell h.lt 3).trans h.c3
   f2:=(k.frozen h.lt 2).trans h.f2
   sizes:=h.sizes.ext k
   order:=h.order.ext k
   words:=h.words.ext k
   map:=h.map.ext k
   old1:=fun b o e=>Nat.lt_of_lt_of_le (h.old1 b o e) k.le
   old2:=fun b o e=>Nat.lt_of_lt_of_le (h.old2 b o e) k.le }
theorem taken_len (h:HAt w d S):S.taken.length ≤ S.words.length:=by
 have:=h.map.sorted
 have hb:=h.below
 generalize S.words.length=n at hb
 generalize S.taken=T at this hb
 have key:∀ (m:Nat) (T:List Nat),T.Pairwise (· < ·) → (∀ a ∈ T,m ≤ a ∧ a < n) → T.length+m ≤ n ∨ T=[]:=by
  intro m T
  induction T generalizing m with
  | nil=>intro _ _;exact Or.inr rfl
  | cons a r ih=>
   intro hp hr;obtain ⟨h1,h2⟩:=List.pairwise_cons.1 hp;have ha:=hr a (by simp);left
   rcases ih (a+1) h2 (fun b hb=>⟨h1 b hb,(hr b (by simp [hb])).2⟩) with h | h
   · simp;omega
   · subst h;simp;omega
 rcases key 0 T this (fun a ha=>⟨Nat.zero_le _,hb a ha⟩) with h | h
 · omega
 · subst h;simp
theorem set (h:HAt w d S) {j:Nat} {v:Int} {W:List Int} (hw:Hp.wr S.words j v=some W) (h1 : -9223372036854775808 ≤ v) (h2:v ≤ 9223372036854775807):HAt (w.setCell ⟨d.gw,j,none⟩ (.int .i64 v)) d { S with words:=W }:=by
 have hl:W.length=S.words.length:=by
  unfold Hp.wr at hw
  split at hw
  · cases hw;simp
  · cases hw
 have k:But [d.gw] w (w.setCell ⟨d.gw,j,none⟩ (.int .i64 v)):=(But.refl _ _).setCell (by simp) _
 have n1:d.hb ∉ [d.gw]:=by simp [h.apart1]
 have n2:d.gm ∉ [d.gw]:=by simp [h.apart3.symm]
 exact
 { c0:=(k.cell h.lt n1 0).trans h.c0
   c1:=(k.cell h.lt n1 1).trans h.c1
   c2:=by rw [k.cell h.lt n1 2,h.c2,hl]
   c3:=(k.cell h.lt n1 3).trans h.c3
   f2:=(k.frozen h.lt n1 2).trans h.f2
   sizes:=h.sizes.but k (fun b o e hm=>h.far1 b o e (by simp [Hd.own] at hm ⊢;simp [hm]))
   order:=h.order.but k (fun b o e hm=>h.far2 b o e (by simp [Hd.own] at hm ⊢;simp [hm]))
   words:=h.words.set hw h1 h2
   le:=by rw [hl];exact h.le
   cap:=h.cap
   map:=h.map.but k n2
   below:=by rw [hl];exact h.below
   apart1:=h.apart1
   apart2:=h.apart2
   apart3:=h.apart3
   far1:=h.far1
   far2:=h.far2
   pos:=h.pos
   small:=by rw [hl];exact h.small
   few:=h.few
   old1:=fun b o e=>Nat.lt_of_lt_of_le (h.old1 b o e) k.size
   old2:=fun b o e=>Nat.lt_of_lt_of_le (h.old2 b o e) k.size }
end HAt
open Go
section
variable {P:Program} {ops:Array Oper} {Q:Exit → Act → World → Prop} {md:Region.Mode} {S:World → Prop} {R:World → World → Prop}
theorem wpOp_frame {j:Nat} {oj:Oper} (hj:ops[j]? = some oj) {K:Act → World → Prop} {a:Act} {w:World} (h:wpOp P ops Q j K a w) :
    wpOp P ops Q j (fun a' w'=>(∃ (u:Value) (d:List Deferred),a'=({ a with defers:=d }:Act).put oj.dst u) ∧ K a' w') a w:=by
  unfold wpOp at h ⊢;rw [hj] at h ⊢;simp only at h ⊢
  split
  · next hw=>
    rw [if_pos hw] at h
    rcases h with h | h
    · refine .inl ?_;unfold Oper.wp at h ⊢;generalize (execOp a.eval oj).run P w=r at h ⊢
      match r with
      | .ok (.value v) w'=>exact ⟨⟨v,a.defers,rfl⟩,h⟩
      | .ok .skip w'=>exact ⟨⟨undef,a.defers,rfl⟩,h⟩
      | .ok (.defer d) w'=>exact ⟨⟨undef,d :: a.defers,rfl⟩,h⟩
      | .ok (.enter f args) w'=>
       refine Calls.mono h fun e w'' he=>?_
       cases e with
       | returned u=>exact ⟨⟨u,a.defers,rfl⟩,he⟩
       | panicked c=>exact he
       | outgrown=>exact he
      | .ok (.row row args) w'=>exact Rows.mono h fun u w'' he=>⟨⟨u,a.defers,rfl⟩,he⟩
      | .halt x w'=>cases x <;> exact h
    · exact .inr h
  · next hw=>
    rw [if_neg hw] at h;exact ⟨⟨undef,a.defers,rfl⟩,h⟩
def YieldsOn (P:Program) (ops:Array Oper) (S:World → Prop) (R:World → World → Prop) (o:Oper) (v:Value) (a:Act):Prop:=
 YieldsIf P ops S o v a ∨ (Region.wanted o (yielded ops a.tmps)=true ∧ ∃ (f:FuncId) (args:Array Value),(∀ w,S w → (execOp a.eval o).run P w = .ok (.enter f args) w) ∧
  ∀ w,S w → Calls P f args w fun e w'=>e = .returned v ∧ R w w' ∧ S w')
theorem YieldsOn.of_same {o:Oper} {v:Value} {a a':Act} (hy:YieldsOn P ops S R o v a) (he:execOp a'.eval o=execOp a.eval o)
    (hw:Region.wanted o (yielded ops a'.tmps)=Region.wanted o (yielded ops a.tmps)):YieldsOn P ops S R o v a':=by
  rcases hy with hy | hy
  · exact .inl (hy.of_same he hw)
  · refine .inr ?_;rw [he,hw];exact hy
theorem YieldsOn.wpOp {i:Nat} {o:Oper} {v:Value} {a:Act} (hi:ops[i]? = some o) (hy:YieldsOn P ops S R o v a) (hR:∀ w,R w w)
    {K:Act → World → Prop} {w:World} (hS:S w) (h:∀ w',R w w' → S w' → K (a.put o.dst v) w'):wpOp P ops Q i K a w:=by
  rcases hy with hy | ⟨hw,f,args,he,hc⟩
  · exact hy.wpOp hi hS (h w (hR w) hS)
  · unfold Go.wpOp;simp only [hi];rw [if_pos hw];refine .inl ?_;unfold Oper.wp;rw [he w hS];refine (hc w hS).mono ?_;rintro e w' ⟨rfl,h1,h2⟩;exact h w' h1 h2
theorem wpOp_putOn {j:Nat} {oi oj:Oper} {v:Value} (hj:ops[j]? = some oj) (hap:oi.apart ops oj=true)
    (hsi:∀ cs b,oi.op ≠ .select cs b) (hsj:∀ cs b,oj.op ≠ .select cs b)
    (hQ:∀ c a w,Q (.panic c) (a.put oi.dst v) w → Q (.panic c) a w) {K:Act → World → Prop} {a:Act} {w:World}
    (hy:YieldsOn P ops S R oi v a) (h:wpOp P ops Q j K (a.put oi.dst v) w) :
    wpOp P ops Q j (fun a' w'=>YieldsOn P ops S R oi v a' ∧ K (a'.put oi.dst v) w') a w:=by
  have hy':YieldsIf P ops (fun _=>False) oi v a:=by
   rcases hy with hy | ⟨hw,-⟩
   · rcases hy with ⟨hw,-⟩ | hy
     · exact .inl ⟨hw,fun _ hf=>hf.elim⟩
     · exact .inr hy
   · exact .inl ⟨hw,fun _ hf=>hf.elim⟩
  obtain ⟨-,-,h3⟩:=Oper.apart_spec hap;refine wpOp_mono ?_ (wpOp_frame hj (wpOp_putIf hj hap hsi hsj hQ hy' h));rintro a' w' ⟨⟨u,d,rfl⟩,-,hk⟩;refine ⟨?_,hk⟩;have h4:YieldsOn P ops S R oi v ({ a with defers:=d }:Act):=hy.of_same rfl rfl;exact h4.of_same (execOp_put oi hsi _ oj.dst u h3) (wanted_put oi _ oj.dst u h3)
def wpAnyR (P:Program) (md:Region.Mode) (ops:Array Oper) (Q:Exit → Act → World → Prop) (S:World → Prop) (R:World → World → Prop):Nat → Array Bool → Act → World → Prop
 | 0,listed,a,w=>Region.ready md ops listed=[] ∧ ∀ w',R w w' → S w' → Q .normal a w'
 | fuel+1,listed,a,w=>∀ w',R w w' → S w' → (Region.ready md ops listed=[] → Q .normal a w') ∧
     ∀ i ∈ Region.ready md ops listed,wpOp P ops Q i (fun a' w''=>S w'' ∧ wpAnyR P md ops Q S R fuel (listed.setIfInBounds i true) a' w'') a w'
theorem wpAnyR.mono (hT:∀ a b c,R a b → R b c → R a c):∀ {fuel:Nat} {listed:Array Bool} {a:Act} {w w1:World},R w w1 → wpAnyR P md ops Q S R fuel listed a w → wpAnyR P md ops Q S R fuel listed a w1
 | 0,_,_,_,_,hr,h=>⟨h.1,fun w' r s=>h.2 w' (hT _ _ _ hr r) s⟩
 | _+1,_,_,_,_,hr,h=>fun w' r s=>h w' (hT _ _ _ hr r) s
theorem wpAny_of_R (hR:∀ w,R w w):∀ (fuel:Nat) (listed:Array Bool) (a:Act) (w:World),S w → wpAnyR P md ops Q S R fuel listed a w → wpAny P md ops Q fuel listed a w
 | 0,_,_,w,hS,h=>⟨h.1,h.2 w (hR w) hS⟩
 | _+1,_,_,w,hS,h=>⟨(h w (hR w) hS).1,fun i hi=>wpOp_mono (fun a' w' h'=>wpAny_of_R hR _ _ a' w' h'.1 h'.2) ((h w (hR w) hS).2 i hi)⟩
theorem wpAnyR_first {i:Nat} {oi:Oper} {v:Value} (hR:∀ w,R w w) (hT:∀ a b c,R a b → R b c → R a c) (hi:ops[i]? = some oi) (hsel:∀ (j:Nat) (o:Oper) cs b,ops[j]? = some o → o.op ≠ .select cs b)
    (hQ:∀ c a w,Q (.panic c) (a.put oi.dst v) w → Q (.panic c) a w) :
    ∀ (fuel:Nat) (listed:Array Bool) (a:Act) (w:World),
     (∀ j oj,ops[j]? = some oj → j ≠ i → listed.getD j true=false → (∀ e ∈ oj.after,Region.binds md e=true → e.on ≠ i) → oi.apart ops oj=true) →
     i ∈ Region.ready md ops listed → YieldsOn P ops S R oi v a →
     wpAnyR P md ops Q S R fuel (listed.setIfInBounds i true) (a.put oi.dst v) w → wpAnyR P md ops Q S R (fuel+1) listed a w:=by
  intro fuel
  induction fuel with
  | zero=>
   intro listed a w _ hr hy H w' r s;refine ⟨fun h=>(by rw [h] at hr;cases hr),fun j hj=>?_⟩
   by_cases hji:j=i
   · subst hji;exact hy.wpOp hi hR s fun w'' r' s'=>⟨s',wpAnyR.mono hT (hT _ _ _ r r') H⟩
   · have:=ready_mono hj hji;rw [H.1] at this
     cases this
  | succ fuel ih=>
   intro listed a w hfree hr hy H w' r s;refine ⟨fun h=>(by rw [h] at hr;cases hr),fun j hj=>?_⟩
   by_cases hji:j=i
   · subst hji;exact hy.wpOp hi hR s fun w'' r' s'=>⟨s',wpAnyR.mono hT (hT _ _ _ r r') H⟩
   · have h1:=(H w' r s).2 j (ready_mono hj hji);obtain ⟨hjun,oj,hoj,hall⟩:=mem_ready.1 hj;have hun:listed.getD i true=false:=(mem_ready.1 hr).1;have hnot:∀ e ∈ oj.after,Region.binds md e=true → e.on ≠ i:=by
      intro e he hb heq;have h2:=hall e he hb;rw [heq] at h2
      by_cases hl:i < listed.size
      · simp only [Array.getD,hl,dif_pos] at hun h2;rw [hun] at h2;cases h2
      · simp only [Array.getD,hl,dif_neg,not_false_eq_true] at h2;cases h2
     have h2:=wpOp_putOn hoj (hfree j oj hoj hji hjun hnot) (fun cs b=>hsel i oi cs b hi) (fun cs b=>hsel j oj cs b hoj) hQ hy h1;refine wpOp_mono ?_ h2;rintro a' w'' ⟨hy',hs',hk⟩;refine ⟨hs',ih (listed.setIfInBounds j true) a' w'' ?_ (ready_mono hr (Ne.symm hji)) hy' ?_⟩
     · intro k ok hk hki hu hno;refine hfree k ok hk hki ?_ hno
       by_cases hjk:j=k
       · subst hjk;exact hjun
       · rw [getD_set_ne true hjk] at hu;exact hu
     · rw [Array.setIfInBounds_comm _ _ hji];exact hk
theorem wpAnyR_take {i:Nat} {oi:Oper} {v:Value} {fuel:Nat} {listed:Array Bool} {a:Act} {w:World} (hR:∀ w,R w w) (hT:∀ a b c,R a b → R b c → R a c) (hi:ops[i]? = some oi)
    (hs:Region.noSelect ops=true) (hf:Region.free md ops listed i=true) (hr:(Region.ready md ops listed).contains i=true)
    (hQ:∀ c a w,Q (.panic c) (a.put oi.dst v) w → Q (.panic c) a w) (hy:YieldsOn P ops S R oi v a)
    (h:wpAnyR P md ops Q S R fuel (listed.setIfInBounds i true) (a.put oi.dst v) w):wpAnyR P md ops Q S R (fuel+1) listed a w:=
  wpAnyR_first hR hT hi (Region.noSelect_spec hs) hQ fuel listed a w (Region.free_spec hi hf) (by simpa using hr) hy h
theorem wpAnyR_done {listed:Array Bool} {a:Act} {w:World} (hr:Region.ready md ops listed=[]) (h:∀ w',R w w' → S w' → Q .normal a w'):∀ fuel,wpAnyR P md ops Q S R fuel listed a w
 | 0=>⟨hr,h⟩
 | _+1=>fun w' r s=>⟨fun _=>h w' r s,by rw [hr];simp⟩
theorem wp_region_seq {id:Nat} {a:Act} {w:World} (hm:P.follows .mixedOrders=true) (hR:∀ w,R w w) (hS:S w.drew)
    (h:wpAnyR P .any ops Q S R ops.size (Array.replicate ops.size false) a w.drew):(Code.region id ops true).wp P Q a w:=
  wp_region_any hm (wpAny_of_R hR _ _ _ _ hS h)
end
section
variable {P:Program} {ops:Array Oper} {Q:Exit → Act → World → Prop} {md:Region.Mode} {S:World → Prop}
theorem tkR (i:Nat) {oi:Oper} {v:Value} {fuel:Nat} {listed:Array Bool} {a:Act} {w:World} (hi:ops[i]? = some oi) (hy:YieldsOn P ops S Ext oi v a) (h:wpAnyR P md ops Q S Ext fuel (listed.setIfInBounds i true) (a.put oi.dst v) w)
    (hs:Region.noSelect ops=true:=by kernel_rfl) (hf:Region.free md ops listed i=true:=by kernel_rfl) (hr:(Region.ready md ops listed).contains i=true:=by kernel_rfl) (hQ:∀ c a w,Q (.panic c) (a.put oi.dst v) w → Q (.panic c) a w:=by exact (fun _ _ _ h=>h)):wpAnyR P md ops Q S Ext (fuel+1) listed a w:=
  wpAnyR_take Ext.refl (fun _ _ _=>Ext.trans) hi hs hf hr hQ hy h
theorem tkL (i:Nat) {oi:Oper} {v:Value} {fuel:Nat} {listed:Array Bool} {a:Act} {w:World} (hi:ops[i]? = some oi) (hy:∀ w,S w → (execOp a.eval oi).run P w = .ok (.value v) w) (h:wpAnyR P md ops Q S Ext fuel (listed.setIfInBounds i true) (a.put oi.dst v) w)
    (hw:Region.wanted oi (yielded ops a.tmps)=true:=by rfl) (hs:Region.noSelect ops=true:=by kernel_rfl) (hf:Region.free md ops listed i=true:=by kernel_rfl) (hr:(Region.ready md ops listed).contains i=true:=by kernel_rfl) (hQ:∀ c a w,Q (.panic c) (a.put oi.dst v) w → Q (.panic c) a w:=by exact (fun _ _ _ h=>h)):wpAnyR P md ops Q S Ext (fuel+1) listed a w:=
  wpAnyR_take Ext.refl (fun _ _ _=>Ext.trans) hi hs hf hr hQ (Or.inl (Or.inl ⟨hw,hy⟩)) h
end
namespace Hp.Hs
variable (S:Hs)
def Kid (a b:Nat):Prop:=∃ ks l,S.kids a=some ks ∧ adrs ks=some l ∧ b ∈ l
inductive Reach (R:List Nat):Nat → Prop
 | root {x:Nat}:x ∈ R → Reach R x
 | step {a b:Nat}:Reach R a → S.Kid a b → Reach R b
def Kids (a:Nat):Prop:=∃ ks l,S.kids a=some ks ∧ adrs ks=some l
variable {S:Hs}
theorem Reach.mono {R R':List Nat} (h:∀ x ∈ R,S.Reach R' x) {x:Nat} (k:S.Reach R x):S.Reach R' x:=by
 induction k with
 | root hx=>exact h _ hx
 | step _ hk ih=>exact .step ih hk
theorem Kid.kids {a b:Nat} (h:S.Kid a b):S.Kids a:=by
 obtain ⟨ks,l,h1,h2,_⟩:=h
 exact ⟨ks,l,h1,h2⟩
theorem markFrom_spec:∀ (n:Nat) (L st L':List Nat),S.markFrom n L st=some L' → L.Pairwise (· < ·) →
    L'.Pairwise (· < ·) ∧ (∀ x ∈ L,x ∈ L') ∧ (∀ x ∈ st,x ∈ L') ∧ (∀ x ∈ L',x ∈ L ∨ S.Reach st x) ∧ (∀ x ∈ L',x ∈ L ∨ (S.Kids x ∧ ∀ b,S.Kid x b → b ∈ L'))
  | n,L,[],L',h,hs=>by
   have:L=L':=by
    unfold markFrom at h
    cases n <;> simpa using h
   subst this;exact ⟨hs,fun _ h=>h,(fun _ h=>by cases h),fun _ h=>.inl h,fun _ h=>.inl h⟩
  | 0,L,a :: r,L',h,hs=>by simp [markFrom] at h
  | n+1,L,a :: r,L',h,hs=>by
   unfold markFrom at h
   by_cases hc:L.contains a=true
   · rw [if_pos hc] at h;obtain ⟨h1,h2,h3,h4,h5⟩:=markFrom_spec n L r L' h hs;refine ⟨h1,h2,fun x hx=>?_,fun x hx=>?_,h5⟩
     · rcases List.mem_cons.1 hx with rfl | hx
       · exact h2 _ (by simpa using hc)
       · exact h3 _ hx
     · rcases h4 x hx with h | h
       · exact .inl h
       · exact .inr (h.mono fun y hy=>.root (by simp [hy]))
   · rw [if_neg hc] at h;obtain ⟨ks,hk,h⟩:=Option.bind_eq_some_iff.1 h;obtain ⟨l,hl,h⟩:=Option.bind_eq_some_iff.1 h;obtain ⟨h1,h2,h3,h4,h5⟩:=markFrom_spec n (insert a L) (l ++ r) L' h (sorted_ins a hs);refine ⟨h1,fun x hx=>h2 x ((mem_ins a x L).2 (.inr hx)),fun x hx=>?_,fun x hx=>?_,fun x hx=>?_⟩
     · rcases List.mem_cons.1 hx with rfl | hx
       · exact h2 _ ((mem_ins _ _ L).2 (.inl rfl))
       · exact h3 _ (by simp [hx])
     · rcases h4 x hx with h | h
       · rcases (mem_ins a x L).1 h with rfl | h
         · exact .inr (.root (by simp))
         · exact .inl h
       · refine .inr (h.mono fun y hy=>?_)
         rcases List.mem_append.1 hy with hy | hy
         · exact .step (.root (by simp)) ⟨ks,l,hk,hl,hy⟩
         · exact .root (by simp [hy])
     · rcases h5 x hx with h | h
       · rcases (mem_ins a x L).1 h with rfl | h
         · refine .inr ⟨⟨ks,l,hk,hl⟩,fun b hb=>?_⟩;obtain ⟨ks',l',h1',h2',hb⟩:=hb;rw [hk] at h1'
           cases h1'
           rw [hl] at h2'
           cases h2'
           exact h3 b (by simp [hb])
         · exact .inl h
       · exact .inr h
theorem held_spec:∀ {l r:List Nat},S.held l=some r → ∀ x,x ∈ r ↔ x ∈ l ∧ ∃ v,rd S.words (x+2)=some v ∧ v > 0
 | [],r,h,x=>by simp [held] at h;subst h;simp
 | a :: l,r,h,x=>by
  unfold held at h;obtain ⟨r0,h0,h⟩:=Option.bind_eq_some_iff.1 h;obtain ⟨v,hv,h⟩:=Option.bind_eq_some_iff.1 h;have ih:=held_spec h0 x
  split at h
  · rename_i hp
    cases h
    simp only [List.mem_cons,ih];constructor
    · rintro (rfl | ⟨h1,h2⟩)
      · exact ⟨.inl rfl,v,hv,hp⟩
      · exact ⟨.inr h1,h2⟩
    · rintro ⟨rfl | h1,h2⟩
      · exact .inl rfl
      · exact .inr ⟨h1,h2⟩
  · rename_i hp
    cases h
    rw [ih];constructor
    · rintro ⟨h1,h2⟩;exact ⟨by simp [h1],h2⟩
    · rintro ⟨h1,v',hv',h2⟩
      rcases List.mem_cons.1 h1 with rfl | h1
      · rw [hv] at hv'
        cases hv'
        exact absurd h2 hp
      · exact ⟨h1,v',hv',h2⟩
theorem held_rd:∀ {l r:List Nat},S.held l=some r → ∀ x ∈ l,∃ v,rd S.words (x+2)=some v
 | [],_,_,x,hx=>by cases hx
 | a :: l,r,h,x,hx=>by
  unfold held at h;obtain ⟨r0,h0,h⟩:=Option.bind_eq_some_iff.1 h;obtain ⟨v,hv,h⟩:=Option.bind_eq_some_iff.1 h
  rcases List.mem_cons.1 hx with rfl | hx
  · exact ⟨v,hv⟩
  · exact held_rd h0 x hx
theorem live_spec {T:List Nat} (h:S.live=some T):∃ R,S.held S.taken=some R ∧ T.Pairwise (· < ·) ∧ (∀ x,x ∈ T ↔ S.Reach R x) ∧ ∀ x,S.Reach R x → S.Kids x:=by
 obtain ⟨R,hR,h⟩:=Option.bind_eq_some_iff.1 h
 obtain ⟨h1,_,h3,h4,h5⟩:=markFrom_spec _ _ _ _ h List.Pairwise.nil
 have key:∀ x,S.Reach R x → x ∈ T:=by
  intro x hx
  induction hx with
  | root hx=>exact h3 _ hx
  | step _ hk ih=>
   rcases h5 _ ih with h | h
   · cases h
   · exact h.2 _ hk
 refine ⟨R,hR,h1,fun x=>⟨fun hx=>?_,key x⟩,fun x hx=>?_⟩
 · rcases h4 x hx with h | h
   · cases h
   · exact h
 · rcases h5 x (key x hx) with h | h
   · cases h
   · exact h.1
theorem sorted_ext:∀ {A B:List Nat},A.Pairwise (· < ·) → B.Pairwise (· < ·) → (∀ x,x ∈ A ↔ x ∈ B) → A=B
 | [],[],_,_,_=>rfl
 | [],b :: B,_,_,h=>by have:=(h b).2 (by simp);cases this
 | a :: A,[],_,_,h=>by have:=(h a).1 (by simp);cases this
 | a :: A,b :: B,ha,hb,h=>by
  obtain ⟨a1,a2⟩:=List.pairwise_cons.1 ha;obtain ⟨b1,b2⟩:=List.pairwise_cons.1 hb;have e:a=b:=by
   have ha:=(h a).1 (by simp);have hb:=(h b).2 (by simp)
   rcases List.mem_cons.1 ha with h1 | h1
   · exact h1
   · rcases List.mem_cons.1 hb with h2 | h2
     · exact h2.symm
     · have:=a1 b h2;have:=b1 a h1;omega
  subst e;rw [sorted_ext a2 b2 fun x=>?_];constructor
  · intro hx
    rcases List.mem_cons.1 ((h x).1 (by simp [hx])) with rfl | h'
    · exact absurd (a1 x hx) (Nat.lt_irrefl _)
    · exact h'
  · intro hx
    rcases List.mem_cons.1 ((h x).2 (by simp [hx])) with rfl | h'
    · exact absurd (b1 x hx) (Nat.lt_irrefl _)
    · exact h'
end Hp.Hs
end Go.Proofs.YtdokmmhjmclmnaaGreat
