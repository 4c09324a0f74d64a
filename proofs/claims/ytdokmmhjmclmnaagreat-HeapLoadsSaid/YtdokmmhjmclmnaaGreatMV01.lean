/-
  Part 1 of a proof: Kit HModel PL1 PL2 PL3 PL4 PL5 PL6 CopyK.
-/
import Derived.BigQuiet
import Derived.Deep.DeepCutAuto
import Derived.Deep.LoopGhost
import Derived.Deep.QuietTactic
import Derived.Deep.RegionHeld3
import Derived.Deep.RegionLaw
import Derived.Handy
import Derived.Laws.CopyOwn
import Derived.Lib.Hide
import Derived.OwnWalkIn
import Derived.RangeFuncFrom
import Derived.Shelf.Abstract
import Derived.WalkKit
import Derived.WalkLawsBesides
import Derived.WalkSpells
set_option linter.unusedSimpArgs false
set_option linter.unusedVariables false
set_option linter.unusedSectionVars false
set_option linter.unnecessarySimpa false
namespace Go.Proofs.YtdokmmhjmclmnaaGreat
open Go.RowKit
theorem setCell_same_block {w:World} {p:Addr} {u:Value} (hc:w.cell? p=some u) (k:Nat):(w.setCell p u).heap[k]? = w.heap[k]? := by
 simp only [World.setCell,Array.getElem?_modify]
 by_cases hk:p.block=k
 . rw [if_pos hk];subst hk;unfold World.cell? at hc
   cases ho:w.heap[p.block]? with
   | none=>rfl
   | some o=>
    cases o with
    | cells c t fr=>
     rw [ho] at hc;simp only at hc
     by_cases hs:p.spot.isSome
     . simp [hs]
     rw [if_neg hs] at hc;simp only [Option.map_some,if_neg hs];obtain ⟨hlt,hv⟩:=Array.getElem?_eq_some_iff.1 hc;rw [show c.setIfInBounds p.off u=c from by
      apply Array.ext
      . simp
      . intro i h1 h2;rw [Array.getElem_setIfInBounds]
        split
        . next e=>subst e;exact hv.symm
        . rfl]
    | _=>rfl
 rw [if_neg hk]
def Ext (w w':World):Prop:=Below w.heap.size w w'
theorem Ext.refl (w:World):Ext w w:=Below.refl _ _
theorem Ext.le {w w':World} (h:Ext w w'):w.heap.size<=w'.heap.size:=Below.size h
theorem Ext.trans {a b c:World} (h:Ext a b) (k:Ext b c):Ext a c:=Below.trans h (Below.mono k h.le)
theorem Ext.alloc {a w:World} (h:Ext a w) (o:Obj):Ext a (w.alloc o):=Below.alloc h h.le o
theorem Ext.drew {a w:World} (h:Ext a w):Ext a w.drew:=Below.drew h
theorem Ext.drewN {a w:World} (h:Ext a w) (n:Nat):Ext a (w.drewN n):=⟨h.os,h.tape,h.output,h.size,h.block⟩
theorem Ext.setCell {a w:World} (h:Ext a w) {p:Addr} (hp:a.heap.size<=p.block) (u:Value):Ext a (w.setCell p u):=Below.setCell h hp u
theorem Ext.cell {w w':World} (h:Ext w w') {b:Nat} (hb:b < w.heap.size) (o:Nat):w'.cell? ⟨b,o,none⟩=w.cell? ⟨b,o,none⟩:=Below.cell (p:=⟨b,o,none⟩) h hb
theorem Ext.frozen {w w':World} (h:Ext w w') {b:Nat} (hb:b < w.heap.size) (o:Nat):w'.frozen? ⟨b,o,none⟩=w.frozen? ⟨b,o,none⟩:=Below.frozen (p:=⟨b,o,none⟩) h hb
theorem Ext.cells {w w':World} (h:Ext w w'):(∀ b o,b < w.heap.size->w'.cell? ⟨b,o,none⟩=w.cell? ⟨b,o,none⟩)/\(∀ b o,b < w.heap.size->w'.frozen? ⟨b,o,none⟩=w.frozen? ⟨b,o,none⟩)/\w.heap.size<=w'.heap.size:=
 ⟨fun _ _ hb=>h.cell hb _,fun _ _ hb=>h.frozen hb _,h.le⟩
theorem exx {a b:World} (h:Ext a b:=by repeat' (first | (with_reducible exact Ext.refl _) | (with_reducible assumption) | (with_reducible refine Ext.alloc ?_ _) | (with_reducible refine Ext.drew ?_) | (with_reducible refine Ext.drewN ?_ _) | (with_reducible refine Ext.setCell ?_ ?_ _) | (with_reducible refine Ext.trans ?_ (by assumption)) | go_size)):Ext a b:=h
theorem layy {p q:Prop} (h:q) (e:p=q:=by first | (simp only [List.getElem_toArray,List.getElem_cons_zero,List.getElem_cons_succ,Act.put,List.setIfInBounds_toArray,List.set_cons_zero,List.set_cons_succ];exact rfl) | exact rfl):p:=e.mpr h
theorem hZ {p:Prop} (h:p):RowKit.Hid p:=h
theorem dT {p:Prop} [Decidable p] (h:p:=by omega):decide p=true:=decide_eq_true h
theorem dF {p:Prop} [Decidable p] (h:¬p:=by omega):decide p=false:=decide_eq_false h
variable {W' w w' w0 wb:World} {B a b base c cap ce cn f g gb i j k lb m n oc s sc:Nat} {choice t x:Int} {G W fs l o xs z:List Int} {A N T:List Nat} {M:List (Nat × Int)} {op p pe pn q sp:Option Addr}
namespace Hp
structure Hs where
 sizes:List Int
 order:List Int
 words:List Int
 taken:List Nat
deriving DecidableEq
def adr (x:Int):Option Nat:=if 0<=x then some x.toNat else none
def ck (x:Int):Option Int:=if -4611686018427387904 < x/\x < 4611686018427387904 then some x else none
def rd (W:List Int) (i:Nat):Option Int:=W[i]?
def ra (W:List Int) (i:Nat):Option Nat:=(rd W i).bind adr
def rc (W:List Int) (i:Nat):Option Int:=(rd W i).bind ck
def wr (W:List Int) (i:Nat) (v:Int):Option (List Int):=if i < W.length then some (W.set i v) else none
def sub (W:List Int) (i n:Nat):Option (List Int):=if i+n<=W.length then some ((W.drop i).take n) else none
def zero (W:List Int) (i n:Nat):Option (List Int):=if i+n<=W.length then some (W.take i ++ List.replicate n 0 ++ W.drop (i+n)) else none
def lay (W:List Int) (i:Nat) (l:List Int):Option (List Int):=if i+l.length<=W.length then some (W.take i ++ (l ++ W.drop (i+l.length))) else none
def within (least most n:Int):Bool:=decide (least<=n) && decide (n<=most)
def isEnd (tag:Int):Bool:=within 20 24 tag
def isNode (sizes:List Int) (tag:Int):Bool:=within 1 sizes.length tag
def index (l:List Int) (x:Int):Int:=match l.findIdx? (· == x) with | some i=>i | none=>-1
def rank (order:List Int) (tag:Int):Int:=if isEnd tag then order.length else index order (tag-1)
def wide (sizes:List Int) (tag:Int):Option Nat:=if isEnd tag then some 5 else do return 4+(<- ra sizes (<- adr (tag-1)))
def sums:List Int->Int->Int->Option Int
 | [],_,n=>some n
 | f :: r,i,n=>do sums r (i+1) (<- ck (n+(i+1) * (<- ck f)))
def chain (tag:Int) (fields:List Int):Option Nat:=do return ((<- sums fields 0 (<- ck (7 * (<- ck tag)))) % 16).toNat
namespace Hs
variable (S:Hs)
def tag (a:Nat):Option Int:=rd S.words a
def wideAt (a:Nat):Option Nat:=do wide S.sizes (<- S.tag a)
def fields (a:Nat):Option (List Int):=do sub S.words (a+4) ((<- S.wideAt a)-4)
def kids (a:Nat):Option (List Int):=do if isEnd (<- S.tag a) then some [] else S.fields a
def has (a:Int):Bool:=decide (0<=a) && S.taken.contains a.toNat
def fuel:Nat:=S.words.length+1
def lookFrom (tag:Int) (fields:List Int):Nat->Nat->Option Nat
 | 0,_=>none
 | n+1,a=>do
  if a=0 then some 0 else
  if (<- S.tag a)=tag/\(<- S.fields a)=fields then some a else
  lookFrom tag fields n (<- ra S.words (a+3))
def look (tag:Int) (fields:List Int):Option Nat:=do S.lookFrom tag fields S.fuel (<- ra S.words (<- chain tag fields))
def takeFrom (W:List Int) (wide:Nat):Nat->Nat->Option (Nat × List Int)
 | 0,_=>none
 | n+1,link=>do
  let a <- ra W link
  if a=0 then some (0,W) else
  let w <- rc W (a+1)
  let next <- rd W (a+2)
  if w-wide=0 then
   some (a,<- zero (<- wr W link next) a wide)
  else if 3<=w-wide then
   let rest:=a+wide
   let W <- wr W rest 0
   let W <- wr W (rest+1) (w-wide)
   let W <- wr W (rest+2) next
   let W <- wr W link rest
   some (a,<- zero W a wide)
  else takeFrom W wide n (a+2)
def take (wide:Nat):Option (Nat × List Int):=takeFrom S.words wide S.fuel 16
def insert (x:Nat):List Nat->List Nat
 | []=>[x]
 | y :: r=>if x < y then x :: y :: r else if x=y then y :: r else y :: insert x r
def use (by':Int):Nat->Nat->List Int->Option (List Int)
 | 0,_,W=>some W
 | n+1,j,W=>do
  let k <- ra W j
  use by' n (j+1) (<- wr W (k+1) ((<- rc W (k+1))+by'))
def add (tag:Int) (fields:List Int):Option (Nat × Hs):=do
 let at0 <- S.look tag fields
 if at0 ≠ 0 then some (at0,S) else
 let (a,W) <- S.take (<- wide S.sizes tag)
 if a=0 then some (0,{ S with words:=W }) else
 let head <- chain tag fields
 let h <- rd W head
 let W <- wr (<- wr W a tag) (a+3) h
 let W <- lay W (a+4) fields
 let W <- wr W head a
 let S1:Hs:={ S with words:=W,taken:=insert a S.taken }
 let W <- use 1 (<- S1.kids a).length (a+4) W
 some (a,{ S1 with words:=W })
def full (r:Nat × Hs):Int × Int × Hs:=if r.1=0 then (0,8,r.2) else (r.1,0,r.2)
def end' (fault n:Int):Option (Int × Int × Hs):=do
 if fault > 4 \/ (fault > 0/\n ≠ 0) \/ within (-9999) 9999 n=false then some (0,4,S) else
 return full (<- S.add (20+fault) [n])
def laters (choice:Int):List Int->Option Bool
 | []=>some true
 | k :: r=>do if rank S.order (<- ck (<- S.tag (<- adr k))) > rank S.order (choice+1) then laters choice r else some false
def checkNode (choice:Int) (kids:List Int):Option Int:=do
 if within 0 (S.sizes.length-1) choice=false then some 3 else
 if (kids.length:Int) ≠ (<- rd S.sizes choice.toNat) then some 4 else
 if kids.all S.has=false then some 7 else
 if (<- S.laters choice kids)=false then some 2 else some 0
def alike (l:List Int):Bool:=l.all (· == l.headD 0)
def make (choice:Int) (kids:List Int):Option (Int × Int × Hs):=do
 let e <- S.checkNode choice kids
 if e ≠ 0 then some (0,e,S) else
 if alike kids then some ((<- kids.head?),0,S) else
 return full (<- S.add (choice+1) kids)
def find (choice:Int) (kids:List Int):Option (Int × Int):=do
 let e <- S.checkNode choice kids
 if e ≠ 0 then some (0,e) else
 if alike kids then some ((<- kids.head?),0) else
 let a <- S.look (choice+1) kids
 if a=0 then some (0,7) else some (a,0)
def hold (a:Int):Option (Int × Hs):=do
 if S.has a=false then some (7,S) else
 return (0,{ S with words:=(<- wr S.words (a.toNat+2) ((<- rc S.words (a.toNat+2))+1)) })
def drop (a:Int):Option (Int × Hs):=do
 if S.has a=false then some (7,S) else
 let n <- rc S.words (a.toNat+2)
 if n=0 then some (9,S) else
 return (0,{ S with words:=(<- wr S.words (a.toNat+2) (n-1)) })
def adrs (l:List Int):Option (List Nat):=l.mapM adr
def markFrom:Nat->List Nat->List Nat->Option (List Nat)
 | _,L,[]=>some L
 | 0,_,_ :: _=>none
 | n+1,L,a :: r=>do if L.contains a then markFrom n L r else markFrom n (insert a L) ((<- adrs (<- S.kids a)) ++ r)
def held:List Nat->Option (List Nat)
 | []=>some []
 | a :: r=>do let l <- held r;if (<- rd S.words (a+2)) > 0 then some (a :: l) else some l
def live:Option (List Nat):=do S.markFrom (S.words.length+S.words.length+1) [] (<- S.held S.taken)
def unlinkFrom (live:List Nat):Nat->List Int->Nat->Option (List Int)
 | 0,_,_=>none
 | n+1,W,link=>do
  let a <- ra W link
  if a=0 then some W else
  if live.contains a then unlinkFrom live n W (a+3) else
  unlinkFrom live n (<- wr W link (<- rd W (a+3))) link
def unlinks (live:List Nat) (n:Nat):List Int->List Nat->Option (List Int)
 | W,[]=>some W
 | W,l :: r=>do unlinks live n (<- unlinkFrom live n W l) r
def unlink (live:List Nat):Option Hs:=do return { S with words:=(<- unlinks live S.fuel S.words (List.range 16)) }
def seek (W:List Int) (a:Nat):Nat->Nat->Nat->Option (Nat × Nat)
 | 0,_,_=>none
 | n+1,before,link=>do
  let next <- ra W link
  if next ≠ 0/\next < a then seek W a n next (next+2) else some (before,link)
def free (a:Nat):Option Hs:=do
 let wide <- S.wideAt a
 let W <- zero S.words a wide
 let T:=S.taken.erase a
 let (before,link) <- seek W a S.fuel 0 16
 let next <- rd W link
 let (wide,next,W) <- (if next=((a+wide:Nat):Int) then do
     let after <- rd W (a+wide+2)
     let w <- rc W (a+wide+1)
     some (<- ck (wide+w),after,<- wr (<- wr W (a+wide+1) 0) (a+wide+2) 0)
   else some ((wide:Int),next,W):Option (Int × Int × List Int))
 let joined <- (if before ≠ 0 then do some (decide (before+(<- rc W (before+1))=a)) else some false:Option Bool)
 if joined then
  let w <- rc W (before+1)
  return { S with words:=(<- wr (<- wr W (before+1) (w+wide)) (before+2) next),taken:=T }
 else
  return { S with words:=(<- wr (<- wr (<- wr W (a+1) wide) (a+2) next) link a),taken:=T }
def frees:Hs->List Nat->Option Hs
 | S,[]=>some S
 | S,a :: r=>do frees (<- S.free a) r
def unuse:Hs->List Nat->Option Hs
 | S,[]=>some S
 | S,a :: r=>do unuse { S with words:=(<- use (-1) (<- S.kids a).length (a+4) S.words) } r
def collect:Option (Nat × Hs):=do
 let live <- S.live
 let S1 <- S.unlink live
 let dead:=S1.taken.filter (fun a=>!live.contains a)
 let S2 <- unuse S1 dead
 let S3 <- frees S2 dead
 some (dead.length,S3)
def moveFrom (S:Hs):List Nat->List Int->Nat->Option (List Int × Nat × List (Nat × Nat))
 | [],W,next=>some (W,next,[])
 | a :: r,W,next=>do
  let wide <- S.wideAt a
  let W <- lay W next (<- sub S.words a wide)
  let (W,n,m) <- moveFrom S r W (next+wide)
  some (W,n,(a,next) :: m)
def goes (m:List (Nat × Nat)) (a:Int):Int:=if a < 0 then 0 else (m.lookup a.toNat).getD 0
def relink (m:List (Nat × Nat)):Hs->List Nat->Option Hs
 | S,[]=>some S
 | S,a :: r=>do
  let tt <- m.lookup a
  let S:={ S with taken:=insert tt S.taken }
  let k <- S.kids tt
  let W <- lay S.words (tt+4) (k.map (goes m))
  let S:={ S with words:=W }
  let head <- chain (<- S.tag tt) (<- S.fields tt)
  let W <- wr S.words (tt+3) (<- rd S.words head)
  let W <- wr W head tt
  relink m { S with words:=W } r
def move:Option (List (Nat × Nat) × Hs):=do
 let (W,next,m) <- moveFrom S S.taken (List.replicate S.words.length 0) 17
 let S1 <- relink m { S with words:=W,taken:=[] } S.taken
 if next < W.length then
  return (m,{ S1 with words:=(<- wr (<- wr S1.words 16 next) (next+1) (W.length-next)) })
 else some (m,S1)
def cellsFrom:Nat->Nat->Option (List (Nat × Nat))
 | 0,_=>none
 | n+1,a=>do
  if a ≥ S.words.length then some [] else
  let t <- S.tag a
  let w <- (if t ≠ 0 then wide S.sizes t else ra S.words (a+1))
  some ((a,w) :: (<- cellsFrom n (a+w)))
def gaps:Option (List Nat):=do
 let l <- S.cellsFrom S.fuel 17
 l.foldrM (fun p r=>do if (<- S.tag p.1)=0 then some (p.2 :: r) else some r) []
end Hs
def new (sizes order:List Int) (words:Nat):Option Hs:=do
 let W <- wr (List.replicate words 0) 16 17
 let W <- wr W 18 (words-17)
 some ⟨sizes,order,W,[]⟩
end Hp
namespace Hp
def ow (W:List Int) (j:Nat):Int:=W.getD j 0
def cut (f:Nat->Int) (i n:Nat):List Int:=(List.range n).map fun k=>f (i+k)
theorem cut_length (f:Nat->Int) (i n:Nat):(cut f i n).length=n:=by simp [cut]
theorem cut_get {f:Nat->Int} (h:k < n):(cut f i n)[k]? = some (f (i+k)):=by simp [cut,h]
theorem mem_cut {f:Nat->Int}:x ∈ cut f i n ↔ ∃ k,k < n/\f (i+k)=x:=by simp [cut]
theorem cut_congr {f g:Nat->Int} (h:∀ k,k < n->f (i+k)=g (i+k)):cut f i n=cut g i n:=by
 unfold cut
 apply List.map_congr_left
 intro k hk
 exact h k (by simpa using hk)
theorem rd_ow (h:j < W.length):rd W j=some (ow W j):=by
 simp [rd,ow,List.getD,List.getElem?_eq_getElem h]
theorem ow_rd (h:rd W j=some x):ow W j=x/\j < W.length:=by
 unfold rd at h
 obtain ⟨hl,e⟩:=List.getElem?_eq_some_iff.1 h
 exact ⟨by simp [ow,List.getD,h],hl⟩
theorem wr_ow (v:Int) (h:i < W.length):∃ W',wr W i v=some W'/\W'.length=W.length /\ ∀ j,ow W' j=if j=i then v else ow W j:=by
 refine ⟨W.set i v,by simp [wr,h],by simp,fun j=>?_⟩
 simp only [ow,List.getD,List.getElem?_set]
 by_cases e:i=j
 . subst e;simp [h]
 rw [if_neg e,if_neg (fun e'=>e e'.symm)]
theorem zero_ow (h:i+n<=W.length):∃ W',zero W i n=some W'/\W'.length=W.length /\ ∀ j,ow W' j=if i<=j/\j < i+n then 0 else ow W j:=by
 refine ⟨_,by unfold zero;rw [if_pos h],by simp;omega,fun j=>?_⟩
 simp only [ow,List.getD]
 by_cases h1:j < i
 . rw [if_neg (by omega),List.append_assoc,List.getElem?_append_left (by simp;omega),List.getElem?_take_of_lt h1]
 by_cases h2:j < i+n
 . rw [if_pos (by omega),List.append_assoc,List.getElem?_append_right (by simp;omega),List.getElem?_append_left (by simp;omega)];simp only [List.length_take,List.getElem?_replicate];rw [if_pos (by omega)];rfl
 rw [if_neg (by omega),List.getElem?_append_right (by simp;omega),List.getElem?_drop]
 simp only [List.length_append,List.length_take,List.length_replicate]
 rw [show i+n+(j-(min i W.length+n))=j by omega]
theorem lay_ow (h:i+l.length<=W.length):∃ W',lay W i l=some W'/\W'.length=W.length /\ ∀ j,ow W' j=if i<=j/\j < i+l.length then l.getD (j-i) 0 else ow W j:=by
 refine ⟨_,by unfold lay;rw [if_pos h],by simp;omega,fun j=>?_⟩
 simp only [ow,List.getD]
 by_cases h1:j < i
 . rw [if_neg (by omega),List.getElem?_append_left (by simp;omega),List.getElem?_take_of_lt h1]
 by_cases h2:j < i+l.length
 . rw [if_pos (by omega),List.getElem?_append_right (by simp;omega),List.getElem?_append_left (by simp;omega)];simp only [List.length_take];rw [show min i W.length=i by omega]
 rw [if_neg (by omega),List.getElem?_append_right (by simp;omega),List.getElem?_append_right (by simp;omega),List.getElem?_drop]
 simp only [List.length_take]
 rw [show i+l.length+(j-min i W.length-l.length)=j by omega]
theorem sub_ow (h:i+n<=W.length):sub W i n=some (cut (ow W) i n):=by
 unfold sub
 rw [if_pos h]
 congr 1
 apply List.ext_getElem?
 intro k
 by_cases hk:k < n
 . rw [cut_get hk,List.getElem?_take_of_lt hk,List.getElem?_drop];exact rd_ow (by omega)
 rw [List.getElem?_eq_none (by simp;omega),List.getElem?_eq_none (by rw [cut_length];omega)]
theorem ra_ow (h:i < W.length) (e:ow W i=(a:Int)):ra W i=some a:=by
 unfold ra
 rw [rd_ow h,e]
 simp [adr]
theorem ck_in (h1 : -4611686018427387904 < x) (h2:x < 4611686018427387904):ck x=some x:=by
 unfold ck
 rw [if_pos ⟨h1,h2⟩]
theorem rc_ow (h:i < W.length) (h1 : -4611686018427387904 < ow W i) (h2:ow W i < 4611686018427387904):rc W i=some (ow W i):=by
 unfold rc
 rw [rd_ow h]
 exact ck_in h1 h2
structure Fr (z:List Int):Prop where
 few:z.length<=6
 pos:∀ s ∈ z,1<=s/\s<=12
def wz (z:List Int) (t:Int):Nat:=if isEnd t then 5 else 4+(z.getD (t-1).toNat 0).toNat
def okTag (z:List Int) (t:Int):Bool:=isNode z t || isEnd t
theorem okTag_le (hz:Fr z) (h:okTag z t=true):1<=t/\t<=24:=by
 have:=hz.few
 simp only [okTag,isNode,isEnd,within,Bool.or_eq_true,Bool.and_eq_true,decide_eq_true_eq] at h
 omega
theorem wz_ok (hz:Fr z) (h:okTag z t=true):wide z t=some (wz z t)/\5<=wz z t/\wz z t<=16:=by
 unfold wide wz
 cases he:isEnd t with
 | true=>simp
 | false=>
  simp only [okTag,he,Bool.or_false,isNode,within,Bool.and_eq_true,decide_eq_true_eq] at h;have hl:(t-1).toNat < z.length:=by omega
  have e1:adr (t-1)=some (t-1).toNat:=by simp [adr];omega
  generalize (t-1).toNat=i at *;have e2:z.getD i 0=z[i]:=by simp [List.getD,List.getElem?_eq_getElem hl]
  have hp:=hz.pos _ (List.getElem_mem hl);have e3:ra z i=some (z[i]).toNat:=by
   unfold ra rd;rw [List.getElem?_eq_getElem hl];simp [adr];omega
  simp only [Bool.false_eq_true,if_false,e1,e3,Option.bind_eq_bind,Option.bind_some,e2];refine ⟨rfl,by omega,by omega⟩
theorem isNode_of (h:okTag z t=true) (he:isEnd t=false):isNode z t=true:=by
 simpa [okTag,he] using h
def fz (f:Nat->Int) (z:List Int) (a:Nat):List Int:=cut f (a+4) (wz z (f a)-4)
def kz (f:Nat->Int) (z:List Int) (a:Nat):List Int:=if isEnd (f a) then [] else fz f z a
theorem fz_length (f:Nat->Int) (z:List Int) (a:Nat):(fz f z a).length=wz z (f a)-4:=by simp [fz,cut_length]
section
variable {S:Hs} {a:Nat}
theorem tag_ow (h:a < S.words.length):S.tag a=some (ow S.words a):=rd_ow h
theorem wideAt_ow (hz:Fr S.sizes) (h:a < S.words.length) (ho:okTag S.sizes (ow S.words a)=true):S.wideAt a=some (wz S.sizes (ow S.words a)):=by
 unfold Hs.wideAt
 rw [tag_ow h]
 exact (wz_ok hz ho).1
theorem fields_ow (hz:Fr S.sizes) (ho:okTag S.sizes (ow S.words a)=true) (h:a+wz S.sizes (ow S.words a)<=S.words.length):S.fields a=some (fz (ow S.words) S.sizes a):=by
 have hw:=wz_ok hz ho
 unfold Hs.fields
 rw [wideAt_ow hz (by omega) ho]
 simp only [Option.bind_eq_bind,Option.bind_some]
 exact sub_ow (by omega)
theorem kids_ow (hz:Fr S.sizes) (ho:okTag S.sizes (ow S.words a)=true) (h:a+wz S.sizes (ow S.words a)<=S.words.length):S.kids a=some (kz (ow S.words) S.sizes a):=by
 have hw:=wz_ok hz ho
 unfold Hs.kids kz
 rw [tag_ow (by omega)]
 simp only [Option.bind_eq_bind,Option.bind_some]
 cases isEnd (ow S.words a)
 . simpa using fields_ow hz ho h
 simp
end
def sz:List Int->Int->Int->Int
 | [],_,n=>n
 | f :: r,i,n=>sz r (i+1) (n+(i+1) * f)
def cz (t:Int) (l:List Int):Nat:=(sz l 0 (7 * t) % 16).toNat
theorem cz_lt (t:Int) (l:List Int):cz t l < 16:=by unfold cz;omega
theorem sums_sz:∀ (l:List Int) (i:Nat) (n:Int),(∀ x ∈ l,-1000000<=x/\x<=1000000)->i+l.length<=20 -> -1000000000 * (i:Int)-1000000<=n->n<=1000000000 * (i:Int)+1000000->sums l i n=some (sz l i n)
 | [],_,_,_,_,_,_=>rfl
 | f :: r,i,n,h,hi,h1,h2=>by
  have hf:=h f (by simp);simp only [List.length_cons] at hi;have hm : -20000000<=((i:Int)+1) * f/\((i:Int)+1) * f<=20000000:=by
   have h0:((i:Int)+1)<=20:=by omega
   have h00:0<=((i:Int)+1):=by omega
   constructor
   . have:=Int.mul_le_mul_of_nonneg_left hf.1 h00;have h3:((i:Int)+1) * -1000000 ≥ 20 * -1000000:=by omega
     omega
   have:=Int.mul_le_mul_of_nonneg_left hf.2 h00;have h3:((i:Int)+1) * 1000000<=20 * 1000000:=by omega
   omega
  unfold sums sz;rw [ck_in (by omega) (by omega)];simp only [Option.bind_eq_bind,Option.bind_some];rw [ck_in (by omega) (by omega)];simp only [Option.bind_some];have:=sums_sz r (i+1) (n+((i:Int)+1) * f) (fun x hx=>h x (by simp [hx])) (by omega) (by push_cast;omega) (by push_cast;omega);rw [show ((i+1:Nat):Int)=(i:Int)+1 by push_cast;rfl] at this;exact this
theorem chain_cz (ht : -1000<=t/\t<=1000) (h:∀ x ∈ l,-1000000<=x/\x<=1000000) (hl:l.length<=12):chain t l=some (cz t l):=by
 unfold chain cz
 rw [ck_in (x:=t) (by omega) (by omega)]
 simp only [Option.bind_eq_bind,Option.bind_some]
 rw [ck_in (by omega) (by omega)]
 simp only [Option.bind_some]
 have:=sums_sz l 0 (7 * t) h (by omega) (by omega) (by omega)
 rw [show ((0:Nat):Int)=0 from rfl] at this
 rw [this]
 rfl
end Hp
namespace Hp
structure Tl where
 a:Nat
 k:Nat
 fr:Bool
deriving DecidableEq
def Lay:Nat->List Tl->Nat->Prop
 | s,[],n=>s=n
 | s,t :: r,n=>t.a=s/\3<=t.k/\Lay (s+t.k) r n
theorem Lay.le:∀ {s n:Nat} {L:List Tl},Lay s L n->s<=n
 | _,_,[],h=>Nat.le_of_eq h
 | _,_,t :: r,h=>by have:=Lay.le h.2.2;omega
theorem Lay.mem:∀ {s n:Nat} {L:List Tl} {t:Tl},Lay s L n->t ∈ L->s<=t.a/\t.a+t.k<=n/\3<=t.k
 | _,_,[],_,_,h=>by cases h
 | s,n,u :: r,t,h,ht=>by
  obtain ⟨h1,h2,h3⟩:=h
  rcases List.mem_cons.1 ht with rfl | ht
  . have:=Lay.le h3;omega
  have:=Lay.mem h3 ht;omega
theorem Lay.app:∀ {s n:Nat} {P Q:List Tl},Lay s (P ++ Q) n ↔ ∃ m,Lay s P m/\Lay m Q n
 | s,n,[],Q=>by simp [Lay]
 | s,n,t :: P,Q=>by
  simp only [List.cons_append,Lay];rw [Lay.app];constructor
  . rintro ⟨h1,h2,m,h3,h4⟩;exact ⟨m,⟨h1,h2,h3⟩,h4⟩
  rintro ⟨m,⟨h1,h2,h3⟩,h4⟩;exact ⟨h1,h2,m,h3,h4⟩
theorem Lay.sep:∀ {s n:Nat} {L:List Tl} {t u:Tl},Lay s L n->t ∈ L->u ∈ L->t=u \/ t.a+t.k<=u.a \/ u.a+u.k<=t.a
 | _,_,[],_,_,_,h,_=>by cases h
 | s,n,v :: r,t,u,h,ht,hu=>by
  obtain ⟨h1,h2,h3⟩:=h
  rcases List.mem_cons.1 ht with e | ht' <;> rcases List.mem_cons.1 hu with e' | hu'
  . exact .inl (e.trans e'.symm)
  . have:=Lay.mem h3 hu';subst e;omega
  . have:=Lay.mem h3 ht';subst e';omega
  exact Lay.sep h3 ht' hu'
theorem Lay.same {L:List Tl} {t u:Tl} (h:Lay s L n) (ht:t ∈ L) (hu:u ∈ L) (e:t.a=u.a):t=u:=by
 have h1:=h.mem ht
 have h2:=h.mem hu
 rcases h.sep ht hu with h3 | h3
 . exact h3
 omega
theorem Lay.parts {P Q:List Tl} {t:Tl} (h:Lay s (P ++ t :: Q) n):Lay s P t.a/\3<=t.k/\Lay (t.a+t.k) Q n:=by
 obtain ⟨m,h1,h2,h3,h4⟩:=Lay.app.1 h
 subst h2
 exact ⟨h1,h3,h4⟩
def adsOf (L:List Tl):List Nat:=(L.filter fun t=>!t.fr).map Tl.a
theorem mem_adsOf {L:List Tl}:a ∈ adsOf L ↔ ∃ t ∈ L,t.fr=false/\t.a=a:=by
 simp only [adsOf,List.mem_map,List.mem_filter,Bool.not_eq_true']
 constructor
 . rintro ⟨t,⟨h1,h2⟩,h3⟩;exact ⟨t,h1,h2,h3⟩
 rintro ⟨t,h1,h2,h3⟩
 exact ⟨t,⟨h1,h2⟩,h3⟩
theorem adsOf_app (P Q:List Tl):adsOf (P ++ Q)=adsOf P ++ adsOf Q:=by simp [adsOf]
theorem adsOf_up:∀ {s n:Nat} {L:List Tl},Lay s L n->(adsOf L).Pairwise (· < ·)
 | _,_,[],_=>List.Pairwise.nil
 | s,n,t :: r,h=>by
  obtain ⟨h1,h2,h3⟩:=h;have ih:=adsOf_up h3;have e:adsOf (t :: r)=(if t.fr then [] else [t.a]) ++ adsOf r:=by
   cases hf:t.fr <;> simp [adsOf,hf]
  rw [e]
  cases hf:t.fr
  . simp only [Bool.false_eq_true,if_false,List.singleton_append,List.pairwise_cons];refine ⟨fun b hb=>?_,ih⟩;obtain ⟨u,hu,_,rfl⟩:=mem_adsOf.1 hb;have:=Lay.mem h3 hu;omega
  simpa using ih
def headF:List Tl->Int->Int
 | [],x=>x
 | t :: r,x=>if t.fr then (t.a:Int) else headF r x
def lastL:Nat->List Tl->Nat
 | l,[]=>l
 | l,t :: r=>if t.fr then lastL (t.a+2) r else lastL l r
def Links (f:Nat->Int):Nat->List Tl->Int->Prop
 | l,[],x=>f l=x
 | l,t :: r,x=>if t.fr then f l=t.a/\Links f (t.a+2) r x else Links f l r x
theorem Links.head {f:Nat->Int}:∀ {l:Nat} {L:List Tl} {x:Int},Links f l L x->f l=headF L x
 | _,[],_,h=>h
 | l,t :: r,x,h=>by
  unfold Links at h;unfold headF
  cases hf:t.fr
  . rw [hf] at h
    simpa using Links.head (by simpa using h)
  rw [hf] at h;simp only [if_true] at h ⊢;exact h.1
theorem Links.app {f:Nat->Int}:∀ {l:Nat} {P Q:List Tl} {x:Int},Links f l (P ++ Q) x ↔ Links f l P (headF Q x)/\Links f (lastL l P) Q x
 | l,[],Q,x=>by
  simp only [List.nil_append,Links,lastL];exact ⟨fun h=>⟨h.head,h⟩,fun h=>h.2⟩
 | l,t :: P,Q,x=>by
  simp only [List.cons_append,Links,lastL]
  cases hf:t.fr
  . simpa using Links.app
  simp only [if_true];rw [Links.app];exact ⟨fun h=>⟨⟨h.1,h.2.1⟩,h.2.2⟩,fun h=>⟨h.1.1,h.1.2,h.2⟩⟩
theorem lastL_app:∀ {l:Nat} {P Q:List Tl},lastL l (P ++ Q)=lastL (lastL l P) Q
 | _,[],_=>rfl
 | l,t :: P,Q=>by
  simp only [List.cons_append,lastL]
  cases t.fr <;> simp [lastL_app]
theorem lastL_is:∀ {l:Nat} {L:List Tl},lastL l L=l \/ ∃ t ∈ L,t.fr=true/\lastL l L=t.a+2
 | l,[]=>.inl rfl
 | l,t :: r=>by
  unfold lastL
  cases hf:t.fr
  . simp only [Bool.false_eq_true,if_false]
    rcases @lastL_is l r with h | ⟨u,hu,h1,h2⟩
    . exact .inl h
    exact .inr ⟨u,by simp [hu],h1,h2⟩
  simp only [if_true]
  rcases @lastL_is (t.a+2) r with h | ⟨u,hu,h1,h2⟩
  . exact .inr ⟨t,by simp,hf,h⟩
  exact .inr ⟨u,by simp [hu],h1,h2⟩
theorem lastL_ge {l:Nat} {L:List Tl} (h:Lay s L n) (hl:l<=s):l<=lastL l L/\lastL l L<=n:=by
 have hn:=h.le
 rcases @lastL_is l L with e | ⟨t,ht,_,e⟩
 . rw [e];omega
 have:=h.mem ht
 rw [e];omega
theorem Links.congr {f g:Nat->Int}:∀ {l:Nat} {L:List Tl} {x:Int},Links f l L x->g l=f l->(∀ t ∈ L,t.fr=true->g (t.a+2)=f (t.a+2))->Links g l L x
 | _,[],_,h,e,_=>e.trans h
 | l,t :: r,x,h,e,hm=>by
  unfold Links at h ⊢
  cases hf:t.fr
  . rw [hf] at h;simp only [Bool.false_eq_true,if_false] at h ⊢;exact Links.congr h e fun u hu=>hm u (by simp [hu])
  rw [hf] at h;simp only [if_true] at h ⊢;exact ⟨e.trans h.1,Links.congr h.2 (hm t (by simp) hf) fun u hu=>hm u (by simp [hu])⟩
theorem Links.turn {f g:Nat->Int}:∀ {s n l:Nat} {L:List Tl} {x:Int} (y:Int),Links f l L x->Lay s L n->l<=s->g (lastL l L)=y->(l ≠ lastL l L->g l=f l)->(∀ t ∈ L,t.fr=true->t.a+2 ≠ lastL l L->g (t.a+2)=f (t.a+2))->Links g l L y
 | _,_,_,[],_,_,_,_,_,e,_,_=>e
 | s,n,l,t :: r,x,y,h,hL,hl,e,h0,hm=>by
  obtain ⟨h1,h2,h3⟩:=hL;unfold Links at h ⊢;unfold lastL at e h0 hm
  cases hf:t.fr
  . rw [hf] at h;simp only [hf,Bool.false_eq_true,if_false] at h e h0 hm ⊢;exact Links.turn y h h3 (by omega) e h0 fun u hu=>hm u (by simp [hu])
  rw [hf] at h;simp only [hf,if_true] at h e h0 hm ⊢;have:=lastL_ge h3 (l:=t.a+2) (by omega);exact ⟨(h0 (by omega)).trans h.1,Links.turn y h.2 h3 (by omega) e (fun hne=>hm t (by simp) hf hne) fun u hu=>hm u (by simp [hu])⟩
def Sep:List Tl->Prop
 | t :: u :: r=>¬ (t.fr=true/\u.fr=true)/\Sep (u :: r)
 | _=>True
theorem Sep.tail {t:Tl} {r:List Tl} (h:Sep (t :: r)):Sep r:=by
 cases r with
 | nil=>trivial
 | cons u r=>exact h.2
def hdF:List Tl->Bool
 | []=>false
 | t :: _=>t.fr
def ltF:List Tl->Bool
 | []=>false
 | [t]=>t.fr
 | _ :: r=>ltF r
theorem Sep.app:∀ {P Q:List Tl},Sep (P ++ Q) ↔ Sep P/\Sep Q /\ ¬ (ltF P=true/\hdF Q=true)
 | [],Q=>by simp [Sep,ltF]
 | [t],[]=>by simp [Sep,hdF]
 | [t],u :: Q=>by
  simp only [List.singleton_append,Sep,ltF,hdF];constructor
  . rintro ⟨h1,h2⟩;exact ⟨trivial,h2,h1⟩
  rintro ⟨_,h2,h1⟩;exact ⟨h1,h2⟩
 | t :: u :: P,Q=>by
  have ih:=@Sep.app (u :: P) Q;simp only [List.cons_append] at ih;simp only [List.cons_append,Sep,ltF,ih];constructor
  . rintro ⟨h1,h2,h3,h4⟩;exact ⟨⟨h1,h2⟩,h3,h4⟩
  rintro ⟨⟨h1,h2⟩,h3,h4⟩;exact ⟨h1,h2,h3,h4⟩
def PartOk (f:Nat->Int) (z:List Int) (t:Tl):Prop:=
 if t.fr then f t.a=0/\f (t.a+1)=t.k /\ ∀ j,t.a+3<=j->j < t.a+t.k->f j=0 else okTag z (f t.a)=true/\t.k=wz z (f t.a)
theorem PartOk.free {f:Nat->Int} {t:Tl} (h:PartOk f z t) (hf:t.fr=true):f t.a=0/\f (t.a+1)=t.k /\ ∀ j,t.a+3<=j->j < t.a+t.k->f j=0:=by
 unfold PartOk at h
 rw [hf] at h
 exact h
theorem PartOk.cell {f:Nat->Int} {t:Tl} (h:PartOk f z t) (hf:t.fr=false):okTag z (f t.a)=true/\t.k=wz z (f t.a):=by
 unfold PartOk at h
 rw [hf] at h
 simpa using h
theorem PartOk.congr {f g:Nat->Int} {t:Tl} (h:PartOk f z t) (ha:g t.a=f t.a) (hf:t.fr=true->g (t.a+1)=f (t.a+1) /\ ∀ j,t.a+3<=j->j < t.a+t.k->g j=f j):PartOk g z t:=by
 unfold PartOk at h ⊢
 cases e:t.fr
 . rw [e] at h;simp only [Bool.false_eq_true,if_false] at h ⊢;rw [ha];exact h
 rw [e] at h
 simp only [if_true] at h ⊢
 obtain ⟨h1,h2⟩:=hf e
 exact ⟨ha.trans h.1,h1.trans h.2.1,fun j hj hk=>(h2 j hj hk).trans (h.2.2 j hj hk)⟩
structure Parts (f:Nat->Int) (z:List Int) (L:List Tl) (n:Nat):Prop where
 lay:Lay 17 L n
 links:Links f 16 L 0
 sep:Sep L
 ok:∀ t ∈ L,PartOk f z t
namespace Parts
variable {f g:Nat->Int} {z:List Int} {L:List Tl} {n:Nat}
theorem congr (h:Parts f z L n) (h16:g 16=f 16) (hc:∀ t ∈ L,g t.a=f t.a) (hf:∀ t ∈ L,t.fr=true -> ∀ j,t.a<=j->j < t.a+t.k->g j=f j):Parts g z L n:=by
 refine ⟨h.lay,h.links.congr h16 fun t ht hfr=>?_,h.sep,fun t ht=>(h.ok t ht).congr (hc t ht) fun hfr=>⟨?_,fun j hj hk=>hf t ht hfr j (by omega) hk⟩⟩
 . have:=h.lay.mem ht;exact hf t ht hfr _ (by omega) (by omega)
 have:=h.lay.mem ht
 exact hf t ht hfr _ (by omega) (by omega)
end Parts
end Hp
namespace Hp
def Path (f:Nat->Int):Nat->List Nat->Prop
 | l,[]=>f l=0
 | l,a :: r=>f l=(a:Int)/\a ≠ 0/\Path f (a+3) r
theorem Path.congr {f g:Nat->Int}:∀ {l:Nat} {r:List Nat},Path f l r->g l=f l->(∀ a ∈ r,g (a+3)=f (a+3))->Path g l r
 | _,[],h,e,_=>e.trans h
 | _,a :: r,h,e,hm=>⟨e.trans h.1,h.2.1,Path.congr h.2.2 (hm a (by simp)) fun b hb=>hm b (by simp [hb])⟩
structure Chains (f:Nat->Int) (z:List Int) (Lv:List Nat) (ch:Nat->List Nat):Prop where
 path:∀ c,c < 16->Path f c (ch c)
 nodup:∀ c,c < 16->(ch c).Nodup
 mem:∀ c,c < 16 -> ∀ a,a ∈ ch c ↔ a ∈ Lv/\cz (f a) (fz f z a)=c
structure Cells (f:Nat->Int) (z o:List Int) (Lv:List Nat):Prop where
 tags:∀ a ∈ Lv,okTag z (f a)=true
 ends:∀ a ∈ Lv,isEnd (f a)=true -> -9999<=f (a+4)/\f (a+4)<=9999/\(20 < f a->f (a+4)=0)
 kids:∀ a ∈ Lv,∀ x ∈ kz f z a,∃ b ∈ Lv,x=(b:Int)/\rank o (f a) < rank o (f b)
 flat:∀ a ∈ Lv,isEnd (f a)=false->Hs.alike (fz f z a)=false
 one:∀ a ∈ Lv,∀ b ∈ Lv,f a=f b->fz f z a=fz f z b->a=b
def cnt (f:Nat->Int) (z:List Int) (a:Nat):List Nat->Nat
 | []=>0
 | b :: r=>(kz f z b).count (a:Int)+cnt f z a r
def Uses (f:Nat->Int) (z:List Int) (Lv Src:List Nat):Prop:=∀ a ∈ Lv,f (a+1)=cnt f z a Src
def Holds (f:Nat->Int) (Lv:List Nat) (B:Nat):Prop:=∀ a ∈ Lv,0<=f (a+2)/\f (a+2)<=B
theorem kz_congr {f g:Nat->Int} (h0:g a=f a) (h:∀ i,i < wz z (f a)-4->g (a+4+i)=f (a+4+i)):fz g z a=fz f z a/\kz g z a=kz f z a:=by
 have e:fz g z a=fz f z a:=by
  unfold fz;rw [h0];exact cut_congr h
 refine ⟨e, ?_⟩
 unfold kz
 rw [h0,e]
def Same (f g:Nat->Int) (z:List Int) (Lv:List Nat):Prop:=∀ a ∈ Lv,g a=f a /\ ∀ i,i < wz z (f a)-4->g (a+4+i)=f (a+4+i)
namespace Same
variable {f g:Nat->Int} {z o:List Int} {Lv Src:List Nat} {ch:Nat->List Nat}
theorem fz_ (h:Same f g z Lv) (ha:a ∈ Lv):fz g z a=fz f z a:=(kz_congr (h a ha).1 (h a ha).2).1
theorem kz_ (h:Same f g z Lv) (ha:a ∈ Lv):kz g z a=kz f z a:=(kz_congr (h a ha).1 (h a ha).2).2
theorem cells (h:Same f g z Lv) (hz:Fr z) (k:Cells f z o Lv):Cells g z o Lv where
 tags a ha:=by rw [(h a ha).1];exact k.tags a ha
 ends a ha he:=by
  have e:=(h a ha).1;rw [e] at he ⊢;have e4:g (a+4)=f (a+4):=by
   have:=(h a ha).2 0 (by have:=wz_ok hz (k.tags a ha);omega)
   simpa using this
  rw [e4];exact k.ends a ha he
 kids a ha x hx:=by
  rw [h.kz_ ha] at hx;obtain ⟨b,hb,e,hr⟩:=k.kids a ha x hx;refine ⟨b,hb,e, ?_⟩;rw [(h a ha).1,(h b hb).1];exact hr
 flat a ha he:=by
  rw [(h a ha).1] at he;rw [h.fz_ ha];exact k.flat a ha he
 one a ha b hb h1 h2:=by
  rw [(h a ha).1,(h b hb).1] at h1;rw [h.fz_ ha,h.fz_ hb] at h2;exact k.one a ha b hb h1 h2
theorem chains (h:Same f g z Lv) (k:Chains f z Lv ch) (h0:∀ c,c < 16->g c=f c) (h3:∀ a ∈ Lv,g (a+3)=f (a+3)):Chains g z Lv ch where
 path c hc:=(k.path c hc).congr (h0 c hc) fun a ha=>h3 a ((k.mem c hc a).1 ha).1
 nodup:=k.nodup
 mem c hc a:=by
  rw [k.mem c hc a];constructor
  . rintro ⟨h1,h2⟩;exact ⟨h1,by rw [(h a h1).1,h.fz_ h1];exact h2⟩
  rintro ⟨h1,h2⟩;rw [(h a h1).1,h.fz_ h1] at h2;exact ⟨h1,h2⟩
theorem cnt_ (h:Same f g z Lv) (a:Nat):∀ {Src:List Nat},(∀ b ∈ Src,b ∈ Lv)->cnt g z a Src=cnt f z a Src
 | [],_=>rfl
 | b :: r,hs=>by
  unfold cnt;rw [h.kz_ (hs b (by simp)),cnt_ h a fun c hc=>hs c (by simp [hc])]
theorem uses (h:Same f g z Lv) (k:Uses f z Lv Src) (hs:∀ b ∈ Src,b ∈ Lv) (h1:∀ a ∈ Lv,g (a+1)=f (a+1)):Uses g z Lv Src:=fun a ha=>by
 rw [h1 a ha,h.cnt_ a hs]
 exact k a ha
end Same
structure FrOk (z o:List Int):Prop extends Fr z where
 len:o.length=z.length
 perm:∀ i:Nat,i < z.length->(i:Int) ∈ o
 rng:∀ x ∈ o,0<=x/\x < z.length
 nodup:o.Nodup
structure Wf (S:Hs) (B:Nat) (L:List Tl) (ch:Nat->List Nat):Prop where
 fr:FrOk S.sizes S.order
 lo:20<=S.words.length
 hi:S.words.length<=100000
 bd:B<=9223372036854775807
 parts:Parts (ow S.words) S.sizes L S.words.length
 taken:S.taken=adsOf L
 chains:Chains (ow S.words) S.sizes S.taken ch
 cells:Cells (ow S.words) S.sizes S.order S.taken
 uses:Uses (ow S.words) S.sizes S.taken S.taken
 holds:Holds (ow S.words) S.taken B
namespace Wf
variable {S:Hs} {B:Nat} {L:List Tl} {ch:Nat->List Nat}
theorem part (h:Wf S B L ch) (ha:a ∈ S.taken):(⟨a,wz S.sizes (ow S.words a),false⟩:Tl) ∈ L/\17<=a/\a+wz S.sizes (ow S.words a)<=S.words.length/\5<=wz S.sizes (ow S.words a)/\wz S.sizes (ow S.words a)<=16:=by
 rw [h.taken] at ha
 obtain ⟨t,ht,hf,rfl⟩:=mem_adsOf.1 ha
 obtain ⟨h1,h2⟩:=(h.parts.ok t ht).cell hf
 have h3:=h.parts.lay.mem ht
 have h4:=wz_ok h.fr.toFr h1
 rw [<- h2]
 rw [<- h2] at h4
 refine ⟨?_,h3.1,h3.2.1,h4.2.1,h4.2.2⟩
 have:(⟨t.a,t.k,false⟩:Tl)=t:=by
  cases t
  simp only at hf;subst hf;rfl
 rw [this]
 exact ht
theorem tag_ (h:Wf S B L ch) (ha:a ∈ S.taken):S.tag a=some (ow S.words a):=tag_ow (by have:=h.part ha;omega)
theorem fields_ (h:Wf S B L ch) (ha:a ∈ S.taken):S.fields a=some (fz (ow S.words) S.sizes a):=fields_ow h.fr.toFr (h.cells.tags a ha) (h.part ha).2.2.1
theorem kids_ (h:Wf S B L ch) (ha:a ∈ S.taken):S.kids a=some (kz (ow S.words) S.sizes a):=kids_ow h.fr.toFr (h.cells.tags a ha) (h.part ha).2.2.1
theorem fld_le (h:Wf S B L ch) (ha:a ∈ S.taken):∀ x ∈ fz (ow S.words) S.sizes a,-1000000<=x/\x<=1000000:=by
 intro x hx
 cases he:isEnd (ow S.words a) with
 | true=>
  obtain ⟨k,hk,rfl⟩:=mem_cut.1 hx;have e:wz S.sizes (ow S.words a)=5:=by simp [wz,he]
  have:k=0:=by omega
  subst this;have:=h.cells.ends a ha he;rw [Nat.add_zero];omega
 | false=>
  have hk:x ∈ kz (ow S.words) S.sizes a:=by
   unfold kz;rw [he]
   simpa using hx
  obtain ⟨b,hb,rfl,_⟩:=h.cells.kids a ha x hk;have:=h.part hb;have:=h.hi;omega
theorem tag_le (h:Wf S B L ch) (ha:a ∈ S.taken):1<=ow S.words a/\ow S.words a<=24:=okTag_le h.fr.toFr (h.cells.tags a ha)
theorem chain_ (h:Wf S B L ch) (ha:a ∈ S.taken):chain (ow S.words a) (fz (ow S.words) S.sizes a)=some (cz (ow S.words a) (fz (ow S.words) S.sizes a)):=by
 have h1:=h.tag_le ha
 have h2:=h.part ha
 exact chain_cz (by omega) (h.fld_le ha) (by rw [fz_length];omega)
theorem up (h:Wf S B L ch):S.taken.Pairwise (· < ·):=by
 rw [h.taken]
 exact adsOf_up h.parts.lay
theorem sep (h:Wf S B L ch) (ha:a ∈ S.taken) (hb:b ∈ S.taken):a=b \/ a+wz S.sizes (ow S.words a)<=b \/ b+wz S.sizes (ow S.words b)<=a:=by
 rcases h.parts.lay.sep (h.part ha).1 (h.part hb).1 with e | e
 . injection e with e1
   exact .inl e1
 exact .inr e
theorem apart (h:Wf S B L ch) {t:Tl} (ha:a ∈ S.taken) (ht:t ∈ L) (hf:t.fr=true):a+wz S.sizes (ow S.words a)<=t.a \/ t.a+t.k<=a:=by
 rcases h.parts.lay.sep (h.part ha).1 ht with e | e
 . rw [<- e] at hf
   cases hf
 exact e
end Wf
theorem nodup_len:∀ {l m:List Nat},l.Nodup->(∀ a ∈ l,a ∈ m)->l.length<=m.length
 | [],_,_,_=>Nat.zero_le _
 | a :: r,m,hp,hm=>by
  have ha:a ∈ m:=hm a (by simp);obtain ⟨h1,h2⟩:=List.nodup_cons.1 hp;have:=nodup_len (l:=r) (m:=m.erase a) h2 (fun b hb=>(List.mem_erase_of_ne (by rintro rfl;exact h1 hb)).2 (hm b (by simp [hb])));rw [List.length_erase_of_mem ha] at this;have:=List.length_pos_of_mem ha;simp only [List.length_cons];omega
theorem up_len:∀ {m n:Nat} {T:List Nat},T.Pairwise (· < ·)->(∀ a ∈ T,m<=a/\a < n)->m<=n->T.length+m<=n
 | m,n,[],_,_,h=>by simpa using h
 | m,n,a :: r,hp,hr,_=>by
  obtain ⟨h1,h2⟩:=List.pairwise_cons.1 hp;have ha:=hr a (by simp);have:=up_len (m:=a+1) h2 (fun b hb=>⟨h1 b hb,(hr b (by simp [hb])).2⟩) (by omega);simp only [List.length_cons];omega
theorem Wf.few {S:Hs} {L:List Tl} {ch:Nat->List Nat} (h:Wf S B L ch):S.taken.length+17<=S.words.length:=
 up_len h.up (fun a ha=>by have:=h.part ha;omega) (by have:=h.lo;omega)
theorem look_path {S:Hs} {B:Nat} {L:List Tl} {ch:Nat->List Nat} (h:Wf S B L ch) (t:Int) (fs:List Int):∀ (r:List Nat) (l m:Nat),Path (ow S.words) l r->(∀ a ∈ r,a ∈ S.taken)->r.length < m ->
    S.lookFrom t fs m (ow S.words l).toNat=some ((r.find? fun a=>decide (ow S.words a=t/\fz (ow S.words) S.sizes a=fs)).getD 0)
  | [],l,m,hp,_,hm=>by
   cases m with
   | zero=>simp at hm
   | succ m=>
    have e:ow S.words l=0:=hp;simp [Hs.lookFrom,e]
  | a :: r,l,m,hp,hr,hm=>by
   cases m with
   | zero=>simp at hm
   | succ m=>
    obtain ⟨e,h0,hp⟩:=hp;have ha:=hr a (by simp);have hl:=h.part ha;rw [e];unfold Hs.lookFrom;rw [Int.toNat_natCast,if_neg h0,h.tag_ ha,h.fields_ ha];simp only [Option.bind_eq_bind,Option.bind_some]
    by_cases hq:ow S.words a=t/\fz (ow S.words) S.sizes a=fs
    . rw [if_pos hq,List.find?_cons_of_pos (by simpa using hq)];rfl
    rw [if_neg hq,List.find?_cons_of_neg (by simpa using hq)];have hlt:a+3 < S.words.length:=by omega
    have hx:0<=ow S.words (a+3):=by
     cases r with
     | nil=>
      have e':ow S.words (a+3)=0:=hp;omega
     | cons b r=>have:=hp.1;omega
    have e3:ra S.words (a+3)=some (ow S.words (a+3)).toNat:=ra_ow hlt (by omega);rw [e3];simp only [Option.bind_some];exact look_path h t fs r (a+3) m hp (fun b hb=>hr b (by simp [hb])) (by simpa using hm)
theorem look_eq {S:Hs} {L:List Tl} {ch:Nat->List Nat} (h:Wf S B L ch) (hc:chain t fs=some c) (h16:c < 16) :
    S.look t fs=some (((ch c).find? fun a=>decide (ow S.words a=t/\fz (ow S.words) S.sizes a=fs)).getD 0):=by
  have hlo:=h.lo;have hp:=h.chains.path c h16;have hm:∀ a ∈ ch c,a ∈ S.taken:=fun a ha=>((h.chains.mem c h16 a).1 ha).1
  have hln:=nodup_len (h.chains.nodup c h16) hm;have hx:0<=ow S.words c:=by
   cases hcc:ch c with
   | nil=>
    rw [hcc] at hp;have e':ow S.words c=0:=hp;omega
   | cons b r=>rw [hcc] at hp;have:=hp.1;omega
  have e3:ra S.words c=some (ow S.words c).toNat:=ra_ow (by omega) (by omega);unfold Hs.look;rw [hc];simp only [Option.bind_eq_bind,Option.bind_some,e3];exact look_path h t fs _ _ _ hp hm (by have:=h.few;unfold Hs.fuel;omega)
theorem look_hit {S:Hs} {L:List Tl} {ch:Nat->List Nat} (h:Wf S B L ch) (ha:a ∈ S.taken):S.look (ow S.words a) (fz (ow S.words) S.sizes a)=some a:=by
 rw [look_eq h (h.chain_ ha) (cz_lt _ _)]
 congr 1
 have hm:=(h.chains.mem _ (cz_lt _ _) a).2 ⟨ha,rfl⟩
 cases hf:(ch (cz (ow S.words a) (fz (ow S.words) S.sizes a))).find? (fun b=>decide (ow S.words b=ow S.words a/\fz (ow S.words) S.sizes b=fz (ow S.words) S.sizes a)) with
 | none=>
  rw [List.find?_eq_none] at hf;exact absurd (by simp) (hf a hm)
 | some b=>
  have h1:=List.find?_some hf;have h2:=List.mem_of_find?_eq_some hf;simp only [decide_eq_true_eq] at h1;exact h.cells.one b ((h.chains.mem _ (cz_lt _ _) b).1 h2).1 a ha h1.1 h1.2
theorem look_spec {S:Hs} {L:List Tl} {ch:Nat->List Nat} (h:Wf S B L ch) (hc:chain t fs=some c) (h16:c < 16) :
    (∃ a ∈ S.taken,ow S.words a=t/\fz (ow S.words) S.sizes a=fs/\S.look t fs=some a) \/ ((∀ a ∈ S.taken,¬ (ow S.words a=t/\fz (ow S.words) S.sizes a=fs))/\S.look t fs=some 0):=by
  by_cases hx:∃ a ∈ S.taken,ow S.words a=t/\fz (ow S.words) S.sizes a=fs
  . obtain ⟨a,ha,h1,h2⟩:=hx;left;refine ⟨a,ha,h1,h2, ?_⟩;subst h1 h2;exact look_hit h ha
  right;refine ⟨fun a ha hh=>hx ⟨a,ha,hh⟩, ?_⟩;rw [look_eq h hc h16]
  congr 1
  rw [List.find?_eq_none.2]
  . rfl
  intro a ha;simp only [decide_eq_true_eq];exact fun hh=>hx ⟨a,((h.chains.mem c h16 a).1 ha).1,hh⟩
end Hp
namespace Hp
theorem Wf.ne {S:Hs} {L:List Tl} {ch:Nat->List Nat} (h:Wf S B L ch) (ha:a ∈ S.taken) (hb:b ∈ S.taken) (hi:i < wz S.sizes (ow S.words a)) (hj:j < wz S.sizes (ow S.words b)) (hne:a ≠ b \/ i ≠ j):a+i ≠ b+j:=by
 rcases h.sep ha hb with rfl | e | e <;> omega
theorem Wf.held {S:Hs} {B':Nat} {L:List Tl} {ch:Nat->List Nat} (h:Wf S B L ch) {v:Int} (ha:a ∈ S.taken) (hv:0<=v/\v<=B') (hB:B<=B') (hB':B'<=9223372036854775807) (hl:W.length=S.words.length) (hg:∀ j,ow W j=if j=a+2 then v else ow S.words j):Wf { S with words:=W } B' L ch:=by
 have pa:=h.part ha
 have g_:∀ j,j ≠ a+2->ow W j=ow S.words j:=fun j hj=>by rw [hg,if_neg hj]
 have hs:Same (ow S.words) (ow W) S.sizes S.taken:=fun b hb=>by
  have pb:=h.part hb;refine ⟨g_ b ?_,fun i hi=>g_ _ ?_⟩
  . have:=h.ne hb ha (i:=0) (j:=2) (by omega) (by omega) (.inr (by omega))
    simpa using this
  have:=h.ne hb ha (i:=4+i) (j:=2) (by omega) (by omega) (.inr (by omega));omega
 have hx:∀ b ∈ S.taken,∀ i,i < 4->i ≠ 2->ow W (b+i)=ow S.words (b+i):=fun b hb i hi hn=>by
  have pb:=h.part hb;exact g_ _ (h.ne hb ha (by omega) (by omega) (.inr hn))
 exact
 { fr:=h.fr
   lo:=by rw [show ({ S with words:=W }:Hs).words.length=S.words.length from hl];exact h.lo
   hi:=by rw [show ({ S with words:=W }:Hs).words.length=S.words.length from hl];exact h.hi
   bd:=hB'
   parts:=by
    rw [show ({ S with words:=W }:Hs).words.length=S.words.length from hl];refine h.parts.congr (g_ _ (by omega)) (fun t ht=>?_) fun t ht hf j h1 h2=>g_ _ ?_
    . cases hf:t.fr with
      | false=>
       have:t.a ∈ S.taken:=by rw [h.taken];exact mem_adsOf.2 ⟨t,ht,hf,rfl⟩
       have:=hx _ this 0 (by omega) (by omega)
       simpa using this
      | true=>
       have:=h.apart ha ht hf;have:=h.parts.lay.mem ht;exact g_ _ (by omega)
    have:=h.apart ha ht hf;omega
   taken:=h.taken
   chains:=hs.chains h.chains (fun c hc=>g_ _ (by omega)) fun b hb=>hx b hb 3 (by omega) (by omega)
   cells:=hs.cells h.fr.toFr h.cells
   uses:=hs.uses h.uses (fun b hb=>hb) fun b hb=>hx b hb 1 (by omega) (by omega)
   holds:=fun b hb=>by
    show 0<=ow W (b+2)/\ow W (b+2)<=B'
    rw [hg]
    split
    . exact hv
    . have:=h.holds b hb;omega }
theorem has_yes {S:Hs} (h:S.has x=true):∃ a:Nat,x=a/\a ∈ S.taken:=by
 unfold Hs.has at h
 simp only [Bool.and_eq_true,decide_eq_true_eq,List.contains_iff_mem] at h
 exact ⟨x.toNat,by omega,h.2⟩
theorem has_of {S:Hs} (h:a ∈ S.taken):S.has (a:Int)=true:=by simp [Hs.has,h]
def widths (f:Nat->Int) (z:List Int):List Nat->Nat
 | []=>0
 | a :: r=>wz z (f a)+widths f z r
theorem widths_app (f:Nat->Int) (z:List Int):∀ P Q:List Nat,widths f z (P ++ Q)=widths f z P+widths f z Q
 | [],Q=>by simp [widths]
 | a :: P,Q=>by simp only [List.cons_append,widths,widths_app f z P Q];omega
theorem widths_le {f:Nat->Int} {z:List Int}:∀ {s n:Nat} {L:List Tl},Lay s L n->(∀ t ∈ L,t.fr=false->t.k=wz z (f t.a))->widths f z (adsOf L)+s<=n
 | s,n,[],h,_=>by
  have:s=n:=h;simp [adsOf,widths,this]
 | s,n,t :: r,h,hk=>by
  obtain ⟨h1,h2,h3⟩:=h;have ih:=widths_le h3 fun u hu=>hk u (by simp [hu])
  have e:adsOf (t :: r)=(if t.fr then [] else [t.a]) ++ adsOf r:=by
   cases hf:t.fr <;> simp [adsOf,hf]
  rw [e,widths_app]
  cases hf:t.fr
  . have:=hk t (by simp) hf;simp only [Bool.false_eq_true,if_false,widths];omega
  simp only [if_true,widths];omega
theorem Wf.widths_ {S:Hs} {L:List Tl} {ch:Nat->List Nat} (h:Wf S B L ch):widths (ow S.words) S.sizes S.taken+17<=S.words.length:=by
 rw [h.taken]
 exact widths_le h.parts.lay fun t ht hf=>((h.parts.ok t ht).cell hf).2
theorem kz_len {f:Nat->Int}:(kz f z a).length<=wz z (f a)-4:=by
 unfold kz
 split
 . simp
 rw [fz_length]
 exact Nat.le_refl _
theorem cnt_le {f:Nat->Int} {z:List Int} (a:Nat):∀ Src:List Nat,cnt f z a Src<=widths f z Src
 | []=>Nat.le_refl _
 | b :: r=>by
  have:=cnt_le (f:=f) (z:=z) a r;have h1:=List.count_le_length (a:=(a:Int)) (l:=kz f z b);have h2:=kz_len (f:=f) (z:=z) (a:=b);unfold cnt widths;omega
theorem Wf.uses_le {S:Hs} {L:List Tl} {ch:Nat->List Nat} (h:Wf S B L ch) (ha:a ∈ S.taken):0<=ow S.words (a+1)/\ow S.words (a+1)<=100000:=by
 rw [h.uses a ha]
 have:=cnt_le (f:=ow S.words) (z:=S.sizes) a S.taken
 have:=h.widths_
 have:=h.hi
 omega
theorem cnt_app (f:Nat->Int) (z:List Int) (a:Nat):∀ P Q:List Nat,cnt f z a (P ++ Q)=cnt f z a P+cnt f z a Q
 | [],Q=>by simp [cnt]
 | b :: P,Q=>by simp only [List.cons_append,cnt,cnt_app f z a P Q];omega
theorem cnt_perm {f:Nat->Int} {P Q:List Nat} (h:P.Perm Q):cnt f z a P=cnt f z a Q:=by
 induction h with
 | nil=>rfl
 | cons x _ ih=>simp only [cnt,ih]
 | swap x y l=>simp only [cnt];omega
 | trans _ _ h1 h2=>exact h1.trans h2
theorem use_spec (v:Int) (hv : -1<=v/\v<=1) (n:Nat):∀ (j:Nat) (W:List Int),j+n<=W.length->(∀ i,i < n -> ∃ k:Nat,ow W (j+i)=(k:Int)/\k+1 < W.length/\(k+1 < j \/ j+n<=k+1) /\ -1000000000+(n:Int)<=ow W (k+1)/\ow W (k+1)+n<=1000000000) ->
    ∃ W',Hs.use v n j W=some W'/\W'.length=W.length /\ ∀ x,ow W' x=ow W x+v * ((cut (ow W) j n).count ((x:Int)-1):Nat):=by
  induction n with
  | zero=>exact fun j W _ _=>⟨W,rfl,rfl,fun x=>by simp [cut]⟩
  | succ n ih=>
   intro j W hl h;obtain ⟨k,e,hk,hd,b1,b2⟩:=h 0 (by omega);rw [Nat.add_zero] at e;obtain ⟨W1,hw1,hl1,hg1⟩:=wr_ow (W:=W) (i:=k+1) (ow W (k+1)+v) hk;have hsame:∀ i,i < n->ow W1 (j+1+i)=ow W (j+1+i):=fun i hi=>by rw [hg1,if_neg (by omega)]
   obtain ⟨W',hw',hl',hg'⟩:=ih (j+1) W1 (by omega) (fun i hi=>by
    obtain ⟨k',e',hk',hd',c1,c2⟩:=h (i+1) (by omega);refine ⟨k', ?_,by omega,by omega, ?_, ?_⟩
    . rw [hsame i hi,<- e']
      congr 1
      omega
    . rw [hg1]
      split
      . rename_i heq;rw [heq] at c1;omega
      omega
    . rw [hg1]
      split
      . rename_i heq;rw [heq] at c2;omega
      . omega)
   refine ⟨W', ?_,hl'.trans hl1,fun x=>?_⟩
   . unfold Hs.use;rw [ra_ow (by omega) e];simp only [Option.bind_eq_bind,Option.bind_some];rw [rc_ow hk (by omega) (by omega)];simp only [Option.bind_some,hw1];exact hw'
   have e1:cut (ow W) j (n+1)=(k:Int) :: cut (ow W) (j+1) n:=by
    unfold cut;rw [List.range_succ_eq_map,List.map_cons,List.map_map]
    congr 1
    apply List.map_congr_left;intro i _;show ow W (j+(i+1))=ow W (j+1+i)
    congr 1
    omega
   rw [hg',cut_congr hsame,hg1,e1,List.count_cons]
   by_cases hx:x=k+1
   . subst hx;have:((k:Int) == ((k+1:Nat):Int)-1)=true:=by simp
     rw [if_pos rfl,if_pos this]
     push_cast
     rw [Int.mul_add];omega
   have:((k:Int) == ((x:Nat):Int)-1)=false:=by simp;omega
   rw [if_neg hx,this];simp
end Hp
namespace Hp
theorem lastL_lt {l:Nat} {L:List Tl} (h:Lay s L n) (hl:l < s):l<=lastL l L/\lastL l L < n:=by
 have hn:=h.le
 rcases @lastL_is l L with e | ⟨t,ht,_,e⟩
 . rw [e];omega
 have:=h.mem ht
 rw [e];omega
def Fits (wide:Nat) (t:Tl):Prop:=t.k=wide \/ wide+3<=t.k
def takeF (f:Nat->Int) (link:Nat) (t:Tl) (wide:Nat) (j:Nat):Int:=
 if t.a<=j/\j < t.a+wide then 0 else
 if t.k=wide then (if j=link then f (t.a+2) else f j) else
 if j=link then ((t.a+wide:Nat):Int) else if j=t.a+wide+2 then f (t.a+2) else if j=t.a+wide+1 then (t.k:Int)-wide else if j=t.a+wide then 0 else f j
theorem takeFrom_miss {W:List Int} {z:List Int} {wide:Nat} (hn:W.length<=100000):∀ (Q:List Tl) (l m s:Nat),Links (ow W) l Q 0->Lay s Q W.length->(∀ t ∈ Q,PartOk (ow W) z t)->l < s->l < W.length->(∀ t ∈ Q,t.fr=true -> ¬ Fits wide t)->Q.length < m->Hs.takeFrom W wide m l=some (0,W)
 | [],l,m,s,h,_,_,_,hlt,_,hm=>by
  cases m with
  | zero=>simp at hm
  | succ m=>
   have e:ow W l=0:=h;unfold Hs.takeFrom;rw [ra_ow (a:=0) hlt (by simpa using e)];rfl
 | t :: r,l,m,s,h,hL,hp,hls,hlt,hf,hm=>by
  obtain ⟨h1,h2,h3⟩:=hL;unfold Links at h
  cases hfr:t.fr with
  | false=>
   rw [hfr] at h;simp only [Bool.false_eq_true,if_false] at h;simp only [List.length_cons] at hm;exact takeFrom_miss hn r l m _ h h3 (fun u hu=>hp u (by simp [hu])) (by omega) hlt (fun u hu=>hf u (by simp [hu])) (by omega)
  | true=>
   rw [hfr] at h;simp only [if_true] at h;simp only [List.length_cons] at hm
   cases m with
   | zero=>simp at hm
   | succ m=>
    have hle:=h3.le;have hk:=(hp t (by simp)).free hfr;have hnf:=hf t (by simp) hfr;unfold Fits at hnf;unfold Hs.takeFrom;rw [ra_ow hlt h.1];simp only [Option.bind_eq_bind,Option.bind_some];rw [if_neg (by omega:¬ t.a=0),rc_ow (by omega) (by rw [hk.2.1];omega) (by rw [hk.2.1];omega),rd_ow (by omega:t.a+2 < W.length)];simp only [Option.bind_some,hk.2.1];rw [if_neg (by omega),if_neg (by omega)];exact takeFrom_miss hn r (t.a+2) m _ h.2 h3 (fun u hu=>hp u (by simp [hu])) (by omega) (by omega) (fun u hu=>hf u (by simp [hu])) (by omega)
theorem takeFrom_hit {W:List Int} {z:List Int} {wide:Nat} (hn:W.length<=100000) (hw:5<=wide) {t:Tl} {Q2:List Tl} (hfr:t.fr=true) (hfit:Fits wide t):∀ (Q:List Tl) (l m s:Nat),Links (ow W) l (Q ++ t :: Q2) 0->Lay s (Q ++ t :: Q2) W.length->(∀ v ∈ Q ++ t :: Q2,PartOk (ow W) z v)->l < s->l < W.length->(∀ t ∈ Q,t.fr=true -> ¬ Fits wide t)->Q.length < m ->
    ∃ W',Hs.takeFrom W wide m l=some (t.a,W')/\W'.length=W.length /\ ∀ j,ow W' j=takeF (ow W) (lastL l Q) t wide j
  | [],l,m,s,h,hL,hp,hls,hlt,_,hm=>by
   cases m with
   | zero=>simp at hm
   | succ m=>
    obtain ⟨h1,h2,h3⟩:=hL;simp only [List.nil_append,Links,hfr,if_true] at h;have hle:=h3.le;have hk:=(hp t (by simp)).free hfr;unfold Hs.takeFrom;rw [ra_ow hlt h.1];simp only [Option.bind_eq_bind,Option.bind_some];rw [if_neg (by omega:¬ t.a=0),rc_ow (by omega) (by rw [hk.2.1];omega) (by rw [hk.2.1];omega),rd_ow (by omega:t.a+2 < W.length)];simp only [Option.bind_some,hk.2.1,lastL]
    by_cases hkw:t.k=wide
    . rw [if_pos (by omega)];obtain ⟨W1,e1,l1,g1⟩:=wr_ow (W:=W) (i:=l) (ow W (t.a+2)) hlt;obtain ⟨W2,e2,l2,g2⟩:=zero_ow (W:=W1) (i:=t.a) (n:=wide) (by omega);refine ⟨W2,by rw [e1];simp only [Option.bind_some,e2],l2.trans l1,fun j=>?_⟩;rw [g2,g1];unfold takeF;simp only [hkw,if_true]
    have:wide+3<=t.k:=by unfold Fits at hfit;omega
    rw [if_neg (by omega),if_pos (by omega)];obtain ⟨W1,e1,l1,g1⟩:=wr_ow (W:=W) (i:=t.a+wide) 0 (by omega);obtain ⟨W2,e2,l2,g2⟩:=wr_ow (W:=W1) (i:=t.a+wide+1) ((t.k:Int)-wide) (by omega);obtain ⟨W3,e3,l3,g3⟩:=wr_ow (W:=W2) (i:=t.a+wide+2) (ow W (t.a+2)) (by omega);obtain ⟨W4,e4,l4,g4⟩:=wr_ow (W:=W3) (i:=l) ((t.a+wide:Nat):Int) (by omega);obtain ⟨W5,e5,l5,g5⟩:=zero_ow (W:=W4) (i:=t.a) (n:=wide) (by omega);refine ⟨W5,by simp only [e1,e2,e3,e4,e5,Option.bind_some],by omega,fun j=>?_⟩;rw [g5,g4,g3,g2,g1];unfold takeF;rw [if_neg hkw]
  | u :: r,l,m,s,h,hL,hp,hls,hlt,hf,hm=>by
   obtain ⟨h1,h2,h3⟩:=hL;simp only [List.cons_append] at h;unfold Links at h
   cases hfu:u.fr with
   | false=>
    rw [hfu] at h;simp only [Bool.false_eq_true,if_false] at h;simp only [List.length_cons] at hm;have:=takeFrom_hit hn hw hfr hfit r l m _ h h3 (fun v hv=>hp v (by simp only [List.cons_append,List.mem_cons];exact .inr hv)) (by omega) hlt (fun v hv=>hf v (by simp [hv])) (by omega)
    simpa [lastL,hfu] using this
   | true=>
    rw [hfu] at h;simp only [if_true] at h;simp only [List.length_cons] at hm
    cases m with
    | zero=>simp at hm
    | succ m=>
     have hle:=h3.le;have hk:=(hp u (by simp)).free hfu;have hnf:=hf u (by simp) hfu;unfold Fits at hnf;unfold Hs.takeFrom;rw [ra_ow hlt h.1];simp only [Option.bind_eq_bind,Option.bind_some];rw [if_neg (by omega:¬ u.a=0),rc_ow (by omega) (by rw [hk.2.1];omega) (by rw [hk.2.1];omega),rd_ow (by omega:u.a+2 < W.length)];simp only [Option.bind_some,hk.2.1];rw [if_neg (by omega),if_neg (by omega)];have:=takeFrom_hit hn hw hfr hfit r (u.a+2) m _ h.2 h3 (fun v hv=>hp v (by simp only [List.cons_append,List.mem_cons];exact .inr hv)) (by omega) (by omega) (fun v hv=>hf v (by simp [hv])) (by omega)
     simpa [lastL,hfu] using this
theorem lay_len_:∀ {s n:Nat} {L:List Tl},Lay s L n->3 * L.length+s<=n
 | s,n,[],h=>by
  have:s=n:=h;simp;omega
 | s,n,t :: r,h=>by
  obtain ⟨h1,h2,h3⟩:=h;have:=lay_len_ h3;simp only [List.length_cons];omega
theorem first_fit (wide:Nat):∀ L:List Tl,(∀ t ∈ L,t.fr=true -> ¬ Fits wide t) \/ ∃ P t Q,L=P ++ t :: Q/\(∀ u ∈ P,u.fr=true -> ¬ Fits wide u)/\t.fr=true/\Fits wide t
 | []=>.inl (by simp)
 | t :: r=>by
  by_cases h:t.fr=true/\Fits wide t
  . exact .inr ⟨[],t,r,rfl,by simp,h.1,h.2⟩
  rcases first_fit wide r with h' | ⟨P,u,Q,rfl,h1,h2,h3⟩
  . refine .inl fun u hu hf hx=>?_
    rcases List.mem_cons.1 hu with rfl | hu
    . exact h ⟨hf,hx⟩
    exact h' u hu hf hx
  refine .inr ⟨t :: P,u,Q,rfl,fun v hv hf hx=>?_,h2,h3⟩
  rcases List.mem_cons.1 hv with rfl | hv
  . exact h ⟨hf,hx⟩
  exact h1 v hv hf hx
theorem mem_insert {a x:Nat}:∀ {T:List Nat},x ∈ Hs.insert a T ↔ x=a \/ x ∈ T
 | []=>by simp [Hs.insert]
 | b :: r=>by
  unfold Hs.insert
  split
  . simp
  split
  . rename_i h;subst h;simp
  simp only [List.mem_cons,mem_insert (T:=r)];constructor
  . rintro (h | h | h)
    . exact .inr (.inl h)
    . exact .inl h
    exact .inr (.inr h)
  rintro (h | h | h)
  . exact .inr (.inl h)
  . exact .inl h
  exact .inr (.inr h)
theorem up_insert {a:Nat}:∀ {T:List Nat},T.Pairwise (· < ·)->(Hs.insert a T).Pairwise (· < ·)
 | [],_=>by simp [Hs.insert]
 | b :: r,h=>by
  obtain ⟨h1,h2⟩:=List.pairwise_cons.1 h;unfold Hs.insert
  split
  . rename_i hab;refine List.pairwise_cons.2 ⟨fun c hc=>?_,h⟩
    rcases List.mem_cons.1 hc with rfl | hc
    . exact hab
    have:=h1 c hc;omega
  split
  . rename_i e;subst e;exact h
  refine List.pairwise_cons.2 ⟨fun c hc=>?_,up_insert h2⟩
  rcases mem_insert.1 hc with rfl | hc
  . omega
  exact h1 c hc
theorem up_ext:∀ {A B:List Nat},A.Pairwise (· < ·)->B.Pairwise (· < ·)->(∀ x,x ∈ A ↔ x ∈ B)->A=B
 | [],[],_,_,_=>rfl
 | [],b :: B,_,_,h=>by have:=(h b).2 (by simp);cases this
 | a :: A,[],_,_,h=>by have:=(h a).1 (by simp);cases this
 | a :: A,b :: B,ha,hb,h=>by
  obtain ⟨a1,a2⟩:=List.pairwise_cons.1 ha;obtain ⟨b1,b2⟩:=List.pairwise_cons.1 hb;have e:a=b:=by
   have ha':=(h a).1 (by simp);have hb':=(h b).2 (by simp)
   rcases List.mem_cons.1 ha' with h1 | h1
   . exact h1
   rcases List.mem_cons.1 hb' with h2 | h2
   . exact h2.symm
   have:=a1 b h2;have:=b1 a h1;omega
  subst e;rw [up_ext a2 b2 fun x=>?_];constructor
  . intro hx
    rcases List.mem_cons.1 ((h x).1 (by simp [hx])) with rfl | h'
    . exact absurd (a1 x hx) (Nat.lt_irrefl _)
    exact h'
  intro hx
  rcases List.mem_cons.1 ((h x).2 (by simp [hx])) with rfl | h'
  . exact absurd (b1 x hx) (Nat.lt_irrefl _)
  exact h'
theorem perm_insert {a:Nat}:∀ {T:List Nat},a ∉ T->(Hs.insert a T).Perm (a :: T)
 | [],_=>List.Perm.refl _
 | b :: r,h=>by
  have h1:a ≠ b:=fun e=>h (by simp [e])
  have h2:a ∉ r:=fun e=>h (by simp [e])
  unfold Hs.insert
  split
  . exact List.Perm.refl _
  exact ((perm_insert h2).cons b).trans (List.Perm.swap a b r)
end Hp
namespace Hp
structure New (S:Hs) (t:Int) (fs:List Int):Prop where
 tag:okTag S.sizes t=true
 len:fs.length=wz S.sizes t-4
 ends:isEnd t=true -> ∀ x ∈ fs,-9999<=x/\x<=9999/\(20 < t->x=0)
 kids:isEnd t=false -> ∀ x ∈ fs,∃ b ∈ S.taken,x=(b:Int)/\rank S.order t < rank S.order (ow S.words b)
 flat:isEnd t=false->Hs.alike fs=false
def ksOf (t:Int) (fs:List Int):List Int:=if isEnd t then [] else fs
structure Put (S S':Hs) (t:Int) (fs:List Int) (a:Nat):Prop where
 sizes:S'.sizes=S.sizes
 order:S'.order=S.order
 len:S'.words.length=S.words.length
 taken:S'.taken=Hs.insert a S.taken
 new:a ∉ S.taken
 tag:ow S'.words a=t
 fs:fz (ow S'.words) S.sizes a=fs
 one:ow S'.words (a+1)=0
 two:ow S'.words (a+2)=0
 old:Same (ow S.words) (ow S'.words) S.sizes S.taken
 hold:∀ b ∈ S.taken,ow S'.words (b+2)=ow S.words (b+2)
theorem ck_of {S:Hs} {L:List Tl} {ch:Nat->List Nat} (h:Wf S B L ch) (hn:New S t fs):chain t fs=some (cz t fs):=by
 have h1:=okTag_le h.fr.toFr hn.tag
 have h2:=wz_ok h.fr.toFr hn.tag
 refine chain_cz (by omega) (fun x hx=>?_) (by rw [hn.len];omega)
 cases he:isEnd t with
 | true=>have:=hn.ends he x hx;omega
 | false=>
  obtain ⟨b,hb,rfl,_⟩:=hn.kids he x hx;have:=h.part hb;have:=h.hi;omega
theorem getD_cut {g:Nat->Int} (h:∀ k,k < fs.length->g (i+k)=fs.getD k 0):cut g i fs.length=fs:=by
 apply List.ext_getElem?
 intro k
 by_cases hk:k < fs.length
 . rw [cut_get hk,h k hk,List.getElem?_eq_getElem hk];simp [List.getD,List.getElem?_eq_getElem hk]
 rw [List.getElem?_eq_none (by rw [cut_length];omega),List.getElem?_eq_none (by omega)]
theorem Links.move {f g:Nat->Int}:∀ {l l':Nat} {L:List Tl} {x:Int},Links f l L x->g l'=f l->(∀ t ∈ L,t.fr=true->g (t.a+2)=f (t.a+2))->Links g l' L x
 | _,_,[],_,h,e,_=>e.trans h
 | l,l',t :: r,x,h,e,hm=>by
  unfold Links at h ⊢
  cases hf:t.fr
  . rw [hf] at h;simp only [Bool.false_eq_true,if_false] at h ⊢;exact Links.move h e fun u hu=>hm u (by simp [hu])
  rw [hf] at h;simp only [if_true] at h ⊢;exact ⟨e.trans h.1,Links.move h.2 (hm t (by simp) hf) fun u hu=>hm u (by simp [hu])⟩
theorem Path.move {f g:Nat->Int}:∀ {l l':Nat} {r:List Nat},Path f l r->g l'=f l->(∀ a ∈ r,g (a+3)=f (a+3))->Path g l' r
 | _,_,[],h,e,_=>e.trans h
 | _,_,a :: r,h,e,hm=>⟨e.trans h.1,h.2.1,Path.move h.2.2 (hm a (by simp)) fun b hb=>hm b (by simp [hb])⟩
theorem Sep.cons {t:Tl} {Q:List Tl}:Sep (t :: Q) ↔ ¬ (t.fr=true/\hdF Q=true)/\Sep Q:=by
 cases Q with
 | nil=>simp [Sep,hdF]
 | cons u r=>rfl
theorem cnt_zero {f:Nat->Int} {z:List Int} {a:Nat}:∀ {Src:List Nat},(∀ b ∈ Src,∀ x ∈ kz f z b,x ≠ (a:Int))->cnt f z a Src=0
 | [],_=>rfl
 | b :: r,h=>by
  unfold cnt;rw [cnt_zero fun c hc=>h c (by simp [hc]),List.count_eq_zero.2 fun hm=>h b (by simp) _ hm rfl]
theorem takeF_out {f:Nat->Int} {link wide:Nat} {t:Tl} (hf:Fits wide t) (hj:j < t.a \/ t.a+t.k<=j) (hl:j ≠ link):takeF f link t wide j=f j:=by
 unfold Fits at hf
 unfold takeF
 rw [if_neg (show ¬ (t.a<=j/\j < t.a+wide) by omega)]
 by_cases hk:t.k=wide
 . rw [if_pos hk,if_neg hl]
 rw [if_neg hk,if_neg hl,if_neg (show ¬ j=t.a+wide+2 by omega),if_neg (show ¬ j=t.a+wide+1 by omega),if_neg (show ¬ j=t.a+wide by omega)]
theorem use_bd {n:Int} (h1:0<=x) (h2:x<=100000) (h3:0<=n) (h4:n<=100) : -1000000000+n<=x/\x+n<=1000000000:=by omega
theorem lastL_where {l:Nat} {L:List Tl}:lastL l L=l \/ ∃ t ∈ L,t.fr=true/\lastL l L=t.a+2:=lastL_is
set_option maxHeartbeats 2000000 in
theorem add_wf {S:Hs} {L:List Tl} {ch:Nat->List Nat} (h:Wf S B L ch) (hn:New S t fs) :
    (∃ a ∈ S.taken,ow S.words a=t/\fz (ow S.words) S.sizes a=fs/\S.add t fs=some (a,S)) \/
    (∀ a ∈ S.taken,¬ (ow S.words a=t/\fz (ow S.words) S.sizes a=fs)) /\
     (((∀ u ∈ L,u.fr=true -> ¬ Fits (wz S.sizes t) u)/\S.add t fs=some (0,S)) \/
      ∃ P u Q S',L=P ++ u :: Q/\(∀ v ∈ P,v.fr=true -> ¬ Fits (wz S.sizes t) v)/\u.fr=true/\Fits (wz S.sizes t) u/\S.add t fs=some (u.a,S')/\Put S S' t fs u.a /\
       Wf S' B (P ++ ⟨u.a,wz S.sizes t,false⟩ :: ((if u.k=wz S.sizes t then [] else [⟨u.a+wz S.sizes t,u.k-wz S.sizes t,true⟩]) ++ Q)) (fun c=>if c=cz t fs then u.a :: ch c else ch c)):=by
  have hck:=ck_of h hn;have hlen:=hn.len;have hwz:=wz_ok h.fr.toFr hn.tag;have hlo:=h.lo;have hhi:=h.hi
  rcases look_spec h hck (cz_lt _ _) with ⟨a,ha,h1,h2,h3⟩ | ⟨hmiss,h3⟩
  . left;refine ⟨a,ha,h1,h2, ?_⟩;have:=h.part ha;unfold Hs.add;rw [h3];simp only [Option.bind_eq_bind,Option.bind_some];rw [if_pos (by omega)]
  right;refine ⟨hmiss, ?_⟩
  have hadd:S.add t fs=(do
      let (a,W) <- S.take (wz S.sizes t)
      if a=0 then some (0,{ S with words:=W }) else
      let x <- rd W (cz t fs)
      let W <- wr (<- wr W a t) (a+3) x
      let W <- lay W (a+4) fs
      let W <- wr W (cz t fs) a
      let S1:Hs:={ S with words:=W,taken:=Hs.insert a S.taken }
      let W <- Hs.use 1 (<- S1.kids a).length (a+4) W
      some (a,{ S1 with words:=W })):=by
    unfold Hs.add;rw [h3,hwz.1,hck];simp only [Option.bind_eq_bind,Option.bind_some];rfl
  have hLl:=lay_len_ h.parts.lay
  rcases first_fit (wz S.sizes t) L with hf | ⟨P,u,Q,hL,hP,hu,hfit⟩
  . left;refine ⟨hf, ?_⟩;have e:=takeFrom_miss (W:=S.words) (z:=S.sizes) (wide:=wz S.sizes t) hhi L 16 S.fuel 17 h.parts.links h.parts.lay h.parts.ok (by omega) (by omega) hf (by unfold Hs.fuel;omega);rw [hadd];unfold Hs.take;rw [e];rfl
  right;subst hL;obtain ⟨W1,e1,l1,g1⟩:=takeFrom_hit (W:=S.words) (z:=S.sizes) (wide:=wz S.sizes t) hhi hwz.2.1 hu hfit P 16 S.fuel 17 h.parts.links h.parts.lay h.parts.ok (by omega) (by omega) hP (by simp only [List.length_append,List.length_cons] at hLl;unfold Hs.fuel;omega);have hk:S.take (wz S.sizes t)=some (u.a,W1):=e1;obtain ⟨lP,l3,lQ⟩:=h.parts.lay.parts;have hum:=h.parts.lay.mem (t:=u) (by simp);have hll:=lastL_lt lP (l:=16) (by omega);have huk:wz S.sizes t<=u.k:=by unfold Fits at hfit;omega
  obtain ⟨um1,um2,um3⟩:=hum;have hc16:=cz_lt t fs;generalize hw0:wz S.sizes t=wd at *;generalize hc0:cz t fs=c at *;generalize ha0:u.a=a at *;generalize hlk:lastL 16 P=link at *;obtain ⟨W2,e2,l2,g2⟩:=wr_ow (W:=W1) (i:=a) t (by omega);obtain ⟨W3,e3,l3',g3⟩:=wr_ow (W:=W2) (i:=a+3) (ow W1 c) (by omega);obtain ⟨W4,e4,l4,g4⟩:=lay_ow (W:=W3) (i:=a+4) (l:=fs) (by omega);obtain ⟨W5,e5,l5,g5⟩:=wr_ow (W:=W4) (i:=c) (a:Int) (by omega);have hfl:fs.length=wd-4:=hlen
  -- the words behind all this
  have G:∀ j,ow W5 j=if j=c then (a:Int) else if a+4<=j/\j < a+wd then fs.getD (j-(a+4)) 0 else if j=a+3 then ow S.words c else if j=a then t else takeF (ow S.words) link u wd j:=fun j=>by
   rw [g5,g4,g3,g2];have ec:ow W1 c=ow S.words c:=by
    rw [g1];exact takeF_out hfit (by omega) (by omega)
   rw [ec,<- g1];simp only [show a+4+fs.length=a+wd by omega]
  have hkids:Hs.kids { S with words:=W5,taken:=Hs.insert a S.taken } a=some (ksOf t fs):=by
   have et:ow W5 a=t:=by
    rw [G,if_neg (by omega),if_neg (by omega),if_neg (by omega),if_pos rfl]
   have:=kids_ow (S:={ S with words:=W5,taken:=Hs.insert a S.taken }) (a:=a) h.fr.toFr (by show okTag S.sizes (ow W5 a)=true;rw [et];exact hn.tag) (by show a+wz S.sizes (ow W5 a)<=W5.length;rw [et,hw0];omega);rw [this];unfold kz ksOf;show some (if isEnd (ow W5 a)=true then [] else fz (ow W5) S.sizes a)=_;rw [et]
   congr 1
   split
   . rfl
   unfold fz;rw [et,hw0,<- hfl];exact getD_cut fun k hk=>by
    rw [G,if_neg (by omega),if_pos (by omega)]
    congr 1
    omega
  have hks:∀ x ∈ ksOf t fs,∃ b ∈ S.taken,x=(b:Int)/\rank S.order t < rank S.order (ow S.words b):=by
   intro x hx;unfold ksOf at hx
   cases he:isEnd t with
   | true=>rw [he] at hx;simp at hx
   | false=>
    rw [he] at hx;exact hn.kids he x (by simpa using hx)
  have hksl:(ksOf t fs).length<=wd-4:=by
   unfold ksOf
   split
   . simp
   omega
  have huL:u ∈ P ++ u :: Q:=by simp
  have uap:∀ b ∈ S.taken,b+wz S.sizes (ow S.words b)<=a \/ a+u.k<=b:=fun b hb=>by
   have:=h.apart hb huL hu;rw [ha0] at this;exact this
  have linkP:link=16 \/ ∃ v ∈ P,v.fr=true/\link=v.a+2:=by
   rw [<- hlk];exact lastL_where
  have linkC:∀ b ∈ S.taken,∀ i,i < wz S.sizes (ow S.words b)->b+i ≠ link:=fun b hb i hi=>by
   have:=h.part hb
   rcases linkP with e | ⟨v,hv,hvf,e⟩
   . omega
   have:=h.apart hb (t:=v) (by simp [hv]) hvf;have:=h.parts.lay.mem (t:=v) (by simp [hv]);omega
  have G0:∀ b ∈ S.taken,∀ i,i < wz S.sizes (ow S.words b)->ow W5 (b+i)=ow S.words (b+i):=fun b hb i hi=>by
   have h1:=h.part hb;have h2:=uap b hb;have h3:=linkC b hb i hi;rw [G,if_neg (by omega),if_neg (by omega),if_neg (by omega),if_neg (by omega)];exact takeF_out hfit (by omega) h3
  have cutk:cut (ow W5) (a+4) (ksOf t fs).length=ksOf t fs:=by
   unfold ksOf
   split
   . rfl
   exact getD_cut fun k hk=>by
    rw [G,if_neg (by omega),if_pos (by omega)]
    congr 1
    omega
  have hks12:((ksOf t fs).length:Int)<=100:=by omega
  have hks0:(0:Int)<=((ksOf t fs).length:Int):=by omega
  obtain ⟨W6,e6,l6,g6⟩:=use_spec 1 (by omega) (ksOf t fs).length (a+4) W5 (by omega) (fun i hi=>by
   have hm:ow W5 (a+4+i) ∈ ksOf t fs:=by
    rw [<- cutk];exact mem_cut.2 ⟨i,hi,rfl⟩
   obtain ⟨b,hb,e,_⟩:=hks _ hm;have h1:=h.part hb;have h2:=uap b hb;have h3:=h.uses_le hb;have h4:=G0 b hb 1 (by omega);rw [<- h4] at h3;have h5:=use_bd h3.1 h3.2 hks0 hks12;have h6:b+1 < W5.length:=by clear h3 h4 h5;omega
   have h7:b+1 < a+4 \/ a+4+(ksOf t fs).length<=b+1:=by clear h3 h4 h5;omega
   exact ⟨b,e,h6,h7,h5⟩)
  rw [cutk] at g6;have g6':∀ x,(∀ b ∈ S.taken,x ≠ b+1)->ow W6 x=ow W5 x:=fun x hx=>by
   rw [g6,List.count_eq_zero.2]
   . simp
   intro hm;obtain ⟨b,hb,e,_⟩:=hks _ hm;exact hx b hb (by omega)
  have F1:∀ b ∈ S.taken,∀ i,i < wz S.sizes (ow S.words b)->i ≠ 1->ow W6 (b+i)=ow S.words (b+i):=fun b hb i hi h1=>by
   rw [g6' _ fun b' hb'=>h.ne hb hb' hi (by have:=h.part hb';omega) (.inr h1)];exact G0 b hb i hi
  have F2:∀ b ∈ S.taken,ow W6 (b+1)=ow S.words (b+1)+((ksOf t fs).count (b:Int):Nat):=fun b hb=>by
   rw [g6,G0 b hb 1 (by have:=h.part hb;omega)]
   push_cast
   rw [show (b:Int)+1-1=b by omega];omega
  have F3:∀ j,a<=j->j < a+u.k->ow W6 j=ow W5 j:=fun j h1 h2=>g6' _ fun b hb=>by
   have:=uap b hb;have:=h.part hb;omega
  have F4:∀ j,j < 18->ow W6 j=ow W5 j:=fun j h1=>g6' _ fun b hb=>by
   have:=h.part hb;omega
  have F5:∀ v ∈ P ++ u :: Q,v.fr=true -> ∀ j,v.a<=j->j < v.a+v.k->ow W6 j=ow W5 j:=fun v hv hf j h1 h2=>g6' _ fun b hb=>by
   have:=h.apart hb hv hf;have:=h.part hb;omega
  have hold:Same (ow S.words) (ow W6) S.sizes S.taken:=fun b hb=>by
   have:=h.part hb;refine ⟨by simpa using F1 b hb 0 (by omega) (by omega),fun i hi=>?_⟩;have:=F1 b hb (4+i) (by omega) (by omega);rw [<- Nat.add_assoc] at this;exact this
  have hnew:a ∉ S.taken:=fun ha=>by
   have:=uap a ha;have:=h.part ha;omega
  have nt:ow W6 a=t:=by
   rw [F3 a (by omega) (by omega),G,if_neg (by omega),if_neg (by omega),if_neg (by omega),if_pos rfl]
  have nf:fz (ow W6) S.sizes a=fs:=by
   unfold fz;rw [nt,hw0,<- hfl];exact getD_cut fun k hk=>by
    rw [F3 _ (by omega) (by omega),G,if_neg (by omega),if_pos (by omega)]
    congr 1
    omega
  have nk:kz (ow W6) S.sizes a=ksOf t fs:=by
   unfold kz ksOf;rw [nt,nf]
  have n1:ow W6 (a+1)=0:=by
   rw [F3 _ (by omega) (by omega),G,if_neg (by omega),if_neg (by omega),if_neg (by omega),if_neg (by omega)];unfold takeF;rw [ha0,if_pos (by omega)]
  have n2:ow W6 (a+2)=0:=by
   rw [F3 _ (by omega) (by omega),G,if_neg (by omega),if_neg (by omega),if_neg (by omega),if_neg (by omega)];unfold takeF;rw [ha0,if_pos (by omega)]
  have n3:ow W6 (a+3)=ow S.words c:=by
   rw [F3 _ (by omega) (by omega),G,if_neg (by omega),if_neg (by omega),if_pos rfl]
  have hc:ow W6 c=(a:Int):=by rw [F4 _ (by omega),G,if_pos rfl]
  have TK:∀ j,(j < a \/ a+wd<=j)->j ≠ c->ow W5 j=takeF (ow S.words) link u wd j:=fun j h1 h2=>by
   rw [G,if_neg h2,if_neg (by omega),if_neg (by omega),if_neg (by omega)]
  have hh:∀ c',c' < 16->c' ≠ c->ow W6 c'=ow S.words c':=fun c' h1 h2=>by
   rw [F4 _ (by omega),TK _ (by omega) h2];exact takeF_out hfit (by omega) (by omega)
  -- free parts but this one
  have FV:∀ v ∈ P ++ u :: Q,v.fr=true->v ≠ u -> ∀ j,v.a<=j->j < v.a+v.k->j ≠ link->ow W6 j=ow S.words j:=fun v hv hf hne j h1 h2 h3=>by
   have hm:=h.parts.lay.mem hv;have hs:=h.parts.lay.sep hv huL;rw [ha0] at hs;have hs:v.a+v.k<=a \/ a+u.k<=v.a:=by
    rcases hs with e | e
    . exact absurd e hne
    exact e
   rw [F5 v hv hf j h1 h2,TK _ (by omega) (by omega)];exact takeF_out hfit (by omega) h3
  have PNE:∀ v ∈ P,v ≠ u/\v.a+v.k<=a:=fun v hv=>by
   have:=lP.mem hv;refine ⟨fun e=>?_,this.2.1⟩;rw [e,ha0] at this;omega
  have QNE:∀ v ∈ Q,v ≠ u/\a+u.k<=v.a:=fun v hv=>by
   have:=lQ.mem hv;refine ⟨fun e=>?_,this.1⟩;rw [e,ha0] at this;omega
  obtain ⟨k1,k2⟩:=Links.app.1 h.parts.links;rw [hlk] at k2;simp only [Links,hu,if_true,ha0] at k2;have hlink:ow W6 link=if u.k=wd then ow S.words (a+2) else ((a+wd:Nat):Int):=by
   have e:ow W6 link=ow W5 link:=by
    rcases linkP with e | ⟨v,hv,hvf,e⟩
    . exact F4 _ (by omega)
    have:=h.parts.lay.mem (t:=v) (by simp [hv]);exact F5 v (by simp [hv]) hvf _ (by omega) (by omega)
   rw [e,TK _ (by omega) (by omega)];unfold takeF;rw [ha0,if_neg (by omega)]
   split
   . rw [if_pos rfl]
   rw [if_pos rfl]
  obtain ⟨s1,s2,s3⟩:=Sep.app.1 h.parts.sep;obtain ⟨s4,s5⟩:=Sep.cons.1 s2;generalize hR:(if u.k=wd then ([]:List Tl) else [⟨a+wd,u.k-wd,true⟩])=R;have hRo:R=[]/\u.k=wd \/ R=[⟨a+wd,u.k-wd,true⟩]/\wd+3<=u.k:=by
   rw [<- hR]
   split
   . rename_i e;exact .inl ⟨rfl,e⟩
   exact .inr ⟨rfl,by unfold Fits at hfit;omega⟩
  have hlay:Lay 17 (P ++ ⟨a,wd,false⟩ :: (R ++ Q)) S.words.length:=by
   refine Lay.app.2 ⟨a,lP,rfl,by show 3<=wd;omega, ?_⟩;show Lay (a+wd) (R ++ Q) _
   rcases hRo with ⟨e,e'⟩ | ⟨e,e'⟩
   . rw [e,<- e'];exact lQ
   rw [e];refine ⟨rfl,by show 3<=u.k-wd;omega, ?_⟩;show Lay (a+wd+(u.k-wd)) Q _;rw [show a+wd+(u.k-wd)=a+u.k by omega];exact lQ
  have hads:adsOf (P ++ ⟨a,wd,false⟩ :: (R ++ Q))=adsOf P ++ a :: adsOf Q:=by
   have e1:adsOf R=[]:=by rcases hRo with ⟨e,_⟩ | ⟨e,_⟩ <;> rw [e] <;> rfl
   rw [adsOf_app];show adsOf P ++ (adsOf ([⟨a,wd,false⟩] ++ (R ++ Q)))=_;rw [adsOf_app,adsOf_app,e1];rfl
  have htk0:S.taken=adsOf P ++ adsOf Q:=by
   rw [h.taken,adsOf_app];show adsOf P ++ adsOf ([u] ++ Q)=_;rw [adsOf_app];simp [adsOf,hu]
  have htk:Hs.insert a S.taken=adsOf (P ++ ⟨a,wd,false⟩ :: (R ++ Q)):=by
   refine up_ext (up_insert h.up) (adsOf_up hlay) fun x=>?_
   rw [mem_insert,hads,htk0];simp only [List.mem_append,List.mem_cons];constructor
   . rintro (h | h | h)
     . exact .inr (.inl h)
     . exact .inl h
     exact .inr (.inr h)
   rintro (h | h | h)
   . exact .inr (.inl h)
   . exact .inl h
   exact .inr (.inr h)
  have ml:∀ b,b ∈ Hs.insert a S.taken ↔ b=a \/ b ∈ S.taken:=fun b=>mem_insert
  have PUT:Put S { S with words:=W6,taken:=Hs.insert a S.taken } t fs a:=⟨rfl,rfl,by show W6.length=_;omega,rfl,hnew,nt,nf,n1,n2,hold,fun b hb=>F1 b hb 2 (by have:=h.part hb;omega) (by omega)⟩
  refine ⟨P,u,Q,{ S with words:=W6,taken:=Hs.insert a S.taken },rfl,hP,hu,hfit, ?_,by rw [ha0];exact PUT, ?_⟩
  . rw [hadd,hk,ha0];simp only [Option.bind_eq_bind,Option.bind_some];rw [if_neg (by omega:¬ a=0),rd_ow (by omega:c < W1.length)];simp only [Option.bind_some,e2,e3,e4,e5,hkids,e6]
  rw [ha0,hR];have hl6:W6.length=S.words.length:=by omega
  exact
  { fr:=h.fr
    lo:=by show 20<=W6.length;omega
    hi:=by show W6.length<=100000;omega
    bd:=h.bd
    parts:=by
     show Parts (ow W6) S.sizes _ W6.length;rw [hl6];refine ⟨hlay,Links.app.2 ⟨?_, ?_⟩,Sep.app.2 ⟨s1,Sep.cons.2 ⟨by simp, ?_⟩,by simp [hdF]⟩,fun v hv=>?_⟩
     . refine k1.turn _ lP (by omega) ?_ (fun hne=>?_) fun v hv hf hne=>?_
       . rw [hlk,hlink];show _=headF (R ++ Q) 0
         rcases hRo with ⟨e,e'⟩ | ⟨e,e'⟩
         . rw [if_pos e',e];exact k2.2.head
         rw [if_neg (by omega),e];rfl
       . rw [hlk] at hne;rw [F4 _ (by omega),TK _ (by omega) (by omega)];exact takeF_out hfit (by omega) hne
       rw [hlk] at hne;have:=lP.mem hv;exact FV v (by simp [hv]) hf (PNE v hv).1 _ (by omega) (by omega) hne
     . rw [hlk];show Links (ow W6) link (R ++ Q) 0;have hq:∀ v ∈ Q,v.fr=true->ow W6 (v.a+2)=ow S.words (v.a+2):=fun v hv hf=>by
        have:=lQ.mem hv;exact FV v (by simp [hv]) hf (QNE v hv).1 _ (by omega) (by omega) (by omega)
       rcases hRo with ⟨e,e'⟩ | ⟨e,e'⟩
       . rw [e];rw [if_pos e'] at hlink;exact k2.2.move hlink hq
       rw [e];rw [if_neg (by omega)] at hlink;refine ⟨hlink,k2.2.move ?_ hq⟩;show ow W6 (a+wd+2)=ow S.words (a+2);rw [F3 _ (by omega) (by omega),TK _ (by omega) (by omega)];unfold takeF;rw [ha0,if_neg (by omega),if_neg (by omega),if_neg (by omega),if_pos rfl]
     . rcases hRo with ⟨e,e'⟩ | ⟨e,e'⟩
       . rw [e];exact s5
       rw [e];refine Sep.cons.2 ⟨fun hx=>s4 ⟨hu,hx.2⟩,s5⟩
     have hcase:v ∈ P \/ v=⟨a,wd,false⟩ \/ v ∈ R \/ v ∈ Q:=by simpa using hv
     have hold':∀ v ∈ P ++ u :: Q,v ≠ u->PartOk (ow W6) S.sizes v:=fun v hv hne=>by
      refine (h.parts.ok v hv).congr ?_ fun hf=>?_
      . cases hf:v.fr with
        | false=>
         have hb:v.a ∈ S.taken:=by rw [h.taken];exact mem_adsOf.2 ⟨v,hv,hf,rfl⟩
         exact (hold _ hb).1
        | true=>
         have:=h.parts.lay.mem hv;refine FV v hv hf hne _ (by omega) (by omega) ?_
         rcases linkP with e | ⟨v',hv',hvf',e⟩
         . omega
         have h1:=h.parts.lay.mem (t:=v') (by simp [hv'])
         rcases h.parts.lay.sep hv (u:=v') (by simp [hv']) with e2 | e2
         . rw [e2];omega
         omega
      have hm:=h.parts.lay.mem hv;have nl:∀ j,v.a<=j->j < v.a+v.k->j ≠ v.a+2->j ≠ link:=fun j h1 h2 h3=>by
       rcases linkP with e | ⟨v',hv',hvf',e⟩
       . omega
       have h1:=h.parts.lay.mem (t:=v') (by simp [hv'])
       rcases h.parts.lay.sep hv (u:=v') (by simp [hv']) with e2 | e2
       . rw [e,<- e2];omega
       omega
      refine ⟨FV v hv hf hne _ (by omega) (by omega) (nl _ (by omega) (by omega) (by omega)),fun j h1 h2=>FV v hv hf hne _ (by omega) (by omega) (nl _ (by omega) (by omega) (by omega))⟩
     rcases hcase with hv | rfl | hv | hv
     . exact hold' v (by simp [hv]) (PNE v hv).1
     . unfold PartOk;simp only [Bool.false_eq_true,if_false];rw [nt];exact ⟨hn.tag,hw0.symm⟩
     . rcases hRo with ⟨e,e'⟩ | ⟨e,e'⟩
       . rw [e] at hv;cases hv
       rw [e] at hv;have:v=⟨a+wd,u.k-wd,true⟩:=by simpa using hv
       subst this;have z0:=(h.parts.ok u huL).free hu;rw [ha0] at z0;unfold PartOk;simp only [if_true];have TT:∀ j,a+wd<=j->j < a+u.k->ow W6 j=takeF (ow S.words) link u wd j:=fun j h1 h2=>by
        rw [F3 _ (by omega) (by omega),TK _ (by omega) (by omega)]
       refine ⟨?_, ?_,fun j h1 h2=>?_⟩
       . rw [TT _ (by omega) (by omega)];unfold takeF;rw [ha0,if_neg (by omega),if_neg (by omega),if_neg (by omega),if_neg (by omega),if_neg (by omega),if_pos rfl]
       . rw [TT _ (by omega) (by omega)];unfold takeF;rw [ha0,if_neg (by omega),if_neg (by omega),if_neg (by omega),if_neg (by omega),if_pos rfl];omega
       rw [TT _ (by omega) (by omega)];unfold takeF;rw [ha0,if_neg (by omega),if_neg (by omega),if_neg (by omega),if_neg (by omega),if_neg (by omega),if_neg (by omega)];exact z0.2.2 j (by omega) (by omega)
     exact hold' v (by simp [hv]) (QNE v hv).1
    taken:=htk
    chains:=by
     show Chains (ow W6) S.sizes (Hs.insert a S.taken) _;refine ⟨fun c' hc'=>?_,fun c' hc'=>?_,fun c' hc' x=>?_⟩
     . have h3:∀ b ∈ ch c',ow W6 (b+3)=ow S.words (b+3):=fun b hb=>by
         have hb:=((h.chains.mem c' hc' b).1 hb).1;exact F1 b hb 3 (by have:=h.part hb;omega) (by omega)
       by_cases e:c'=c
       . subst e;simp only [if_true];exact ⟨hc,by omega,(h.chains.path _ hc').move n3 h3⟩
       simp only [if_neg e];exact (h.chains.path _ hc').congr (hh _ hc' e) h3
     . by_cases e:c'=c
       . subst e;simp only [if_true];exact List.nodup_cons.2 ⟨fun hm=>hnew ((h.chains.mem _ hc' a).1 hm).1,h.chains.nodup _ hc'⟩
       simp only [if_neg e];exact h.chains.nodup _ hc'
     have hx:∀ b ∈ S.taken,cz (ow W6 b) (fz (ow W6) S.sizes b)=cz (ow S.words b) (fz (ow S.words) S.sizes b):=fun b hb=>by rw [(hold b hb).1,hold.fz_ hb]
     rw [ml]
     by_cases exa:x=a
     . subst exa;rw [nt,nf,hc0]
       by_cases e:c'=c
       . subst e;simp
       simp only [if_neg e];constructor
       . intro hm;exact absurd ((h.chains.mem c' hc' x).1 hm).1 hnew
       rintro ⟨_,e'⟩;exact absurd e'.symm e
     have:(x ∈ if c'=c then a :: ch c' else ch c') ↔ x ∈ ch c':=by
      split
      . simp [exa]
      rfl
     rw [this,h.chains.mem c' hc' x];constructor
     . rintro ⟨h1,h2⟩;exact ⟨.inr h1,by rw [hx x h1];exact h2⟩
     rintro ⟨h1 | h1,h2⟩
     . exact absurd h1 exa
     exact ⟨h1,by rw [<- hx x h1];exact h2⟩
    cells:=by
     show Cells (ow W6) S.sizes S.order (Hs.insert a S.taken);have k:=hold.cells h.fr.toFr h.cells;refine ⟨fun b hb=>?_,fun b hb=>?_,fun b hb x hx=>?_,fun b hb=>?_,fun b hb b' hb' h1 h2=>?_⟩
     . rcases (ml b).1 hb with rfl | hb
       . rw [nt];exact hn.tag
       exact k.tags b hb
     . rcases (ml b).1 hb with rfl | hb
       . rw [nt];intro he;have:wd=5:=by rw [<- hw0];simp [wz,he]
         have e4:ow W6 (b+4)=fs.getD 0 0:=by
          rw [F3 _ (by omega) (by omega),G,if_neg (by omega),if_pos (by omega),Nat.sub_self]
         have hm:fs.getD 0 0 ∈ fs:=by
          have:0 < fs.length:=by rw [hfl,this];decide
          rw [List.getD_eq_getElem?_getD,List.getElem?_eq_getElem this];exact List.getElem_mem this
         rw [e4];exact hn.ends he _ hm
       exact k.ends b hb
     . rcases (ml b).1 hb with rfl | hb
       . rw [nk] at hx;obtain ⟨b',hb',e,hr⟩:=hks x hx;exact ⟨b',(ml b').2 (.inr hb'),e,by rw [nt,(hold b' hb').1];exact hr⟩
       obtain ⟨b',hb',e,hr⟩:=k.kids b hb x hx;exact ⟨b',(ml b').2 (.inr hb'),e,hr⟩
     . rcases (ml b).1 hb with rfl | hb
       . rw [nt,nf];exact hn.flat
       exact k.flat b hb
     rcases (ml b).1 hb with e1 | hb1 <;> rcases (ml b').1 hb' with e2 | hb2
     . exact e1.trans e2.symm
     . subst e1;rw [nt,(hold b' hb2).1] at h1;rw [nf,hold.fz_ hb2] at h2;exact absurd ⟨h1.symm,h2.symm⟩ (hmiss b' hb2)
     . subst e2;rw [nt,(hold b hb1).1] at h1;rw [nf,hold.fz_ hb1] at h2;exact absurd ⟨h1,h2⟩ (hmiss b hb1)
     exact k.one b hb1 b' hb2 h1 h2
    uses:=by
     intro b hb;show ow W6 (b+1)=cnt (ow W6) S.sizes b (Hs.insert a S.taken);rw [cnt_perm (perm_insert hnew)];unfold cnt;rw [nk,hold.cnt_ b fun x hx=>hx]
     rcases (ml b).1 hb with rfl | hb
     . rw [n1,List.count_eq_zero.2,cnt_zero]
       . rfl
       . intro b' hb' x hx e;obtain ⟨b'',hb'',e',_⟩:=h.cells.kids b' hb' x hx;have:b=b'':=by omega
         subst this;exact hnew hb''
       intro hm;obtain ⟨b'',hb'',e',_⟩:=hks _ hm;have:b=b'':=by omega
       subst this;exact hnew hb''
     rw [F2 b hb,h.uses b hb]
     push_cast
     omega
    holds:=fun b hb=>by
     show 0<=ow W6 (b+2)/\ow W6 (b+2)<=B
     rcases (ml b).1 hb with rfl | hb
     . rw [n2];exact ⟨Int.le_refl _,Int.natCast_nonneg _⟩
     . rw [F1 b hb 2 (by have:=h.part hb;omega) (by omega)];exact h.holds b hb }
end Hp
open Go.RowKit
theorem heap_new (w:World) (o:Obj):(w.alloc o).heap[w.heap.size]? = some o:=by
 show (w.heap.push o)[w.heap.size]? = _
 simp
theorem run_copy_rowK {P:Program} (w:World) (dT sT ty elem:TypeId) (sz:Nat) (g o dLen dCap:Nat) (a:Addr) (sLen sCap:Nat) (cur:Array Value) (t:TypeId) (cs:List Value)
    (hu:P.underlying dT=some (.slice elem)) (hs:(P.info? elem).map (·.size)=some sz)
    (hg:w.heap[g]? = some (.cells cur t (0,0))) (hn:cs.length=Nat.min sLen dLen * sz)
    (hsrc:∀ j v,cs[j]? = some v->w.cell? (a.add j)=some v) (hfit:o+cs.length<=cur.size) (h1:∀ v ∈ cs,v.oneCell'=true) :
    (Builtin.copy_ #[dT,sT] ty #[.slice (some ⟨g,o,none⟩) dLen dCap,.slice (some a) sLen sCap]).run P w =
     .ok (goInt (Nat.min sLen dLen:Nat)) (w.setRow g (cur.toList.take o ++ cs ++ cur.toList.drop (o+cs.length)).toArray):=by
  have hl:=run_loadCells_list (P:=P) w a cs hsrc;have hst:=run_storeCells_at P g o t cs 0 cur w hg (by simpa using hfit) h1
  cases hq:P.info? elem with
  | none=>simp [hq] at hs
  | some i=>
   have hi:i.size=sz:=by simpa [hq] using hs
   simp [Builtin.copy_,run_underlying hu,Builtin.lenOf,Builtin.firstCells,sizeOf,typeInfo,hq,hi,<- hn,hl,hst]
end Go.Proofs.YtdokmmhjmclmnaaGreat
