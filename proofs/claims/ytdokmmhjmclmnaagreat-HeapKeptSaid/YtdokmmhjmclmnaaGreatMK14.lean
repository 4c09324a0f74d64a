/-
  Part 14 of a proof: HLoadN.
-/
import Derived.Test.YtdokmmhjmclmnaaGreatMK13
set_option linter.unusedSimpArgs false
set_option linter.unusedVariables false
set_option linter.unusedSectionVars false
set_option linter.unnecessarySimpa false
namespace Go.Proofs.YtdokmmhjmclmnaaGreat
variable {W' w w' w0:World} {B a b base c ca cap f g i j k k1 k2 m n oc sb sc:Nat} {choice e t x:Int} {W fs l o z:List Int} {A T:List Nat} {op p p1 p2 pa pe pn q sp:Option Addr} {d:Hd} {S S':Hp.Hs} {M:List (Nat × Int)} {s s':Hp.Sc} {acts:List Hp.Act'}
open Go.RowKit
def Hp.Hs.chainOf (S:Hp.Hs) (a:Nat):Option Nat:=do Hp.chain (<- S.tag a) (<- S.fields a)
def Hp.Hs.linkFrom (S:Hp.Hs) (head:Nat):Nat->Int->List Nat->Option (Option (List Nat))
 | 0,_,_=>none
 | n+1,x,seen=>
  if x=0 then some (some seen) else
  if ({ S with taken:=seen }:Hp.Hs).has x || !S.has x then some none else do
  let c <- S.chainOf x.toNat
  if c ≠ head then some none else do
  let y <- Hp.rd S.words (x.toNat+3)
  S.linkFrom head n y (Hp.Hs.insert x.toNat seen)
def Hp.Hs.headsFrom (S:Hp.Hs):Nat->Nat->List Nat->Option (Option (List Nat))
 | 0,_,seen=>some (some seen)
 | n+1,head,seen=>do
  let x <- Hp.rd S.words head
  let r <- S.linkFrom head (S.taken.length+1) x seen
  match r with
  | none=>some none
  | some seen=>S.headsFrom n (head+1) seen
def Hp.Hs.chainedB (S:Hp.Hs):Option Bool:=do
 let r <- S.headsFrom 16 0 []
 match r with
 | none=>some false
 | some seen=>some (seen.length == S.taken.length)
def ChainsOk (S:Hp.Hs):Prop:=∀ a ∈ S.taken,∃ (t:Int) (l:List Int) (c:Nat) (y:Int),S.tag a=some t/\S.fields a=some l/\Hp.chain t l=some c/\Hp.rd S.words (a+3)=some y
theorem chainOf_some (h1:S.tag a=some t) (h2:S.fields a=some l) (h3:Hp.chain t l=some c):S.chainOf a=some c:=by
 simp [Hp.Hs.chainOf,h1,h2,h3]
theorem insert_length {a:Nat}:∀ {T:List Nat},a ∉ T->(Hp.Hs.insert a T).length=T.length+1
 | [],_=>rfl
 | b :: r,h=>by
  have h1:a ≠ b:=fun e=>h (by simp [e])
  have h2:a ∉ r:=fun e=>h (by simp [e])
  unfold Hp.Hs.insert
  split
  . simp
  simp [h1,insert_length h2]
theorem len_within:∀ {l m:List Nat},l.Pairwise (· < ·)->(∀ a ∈ l,a ∈ m)->l.length<=m.length
 | [],_,_,_=>Nat.zero_le _
 | a :: r,m,hp,hm=>by
  have ha:a ∈ m:=hm a (by simp);have:=len_within (l:=r) (m:=m.erase a) (List.pairwise_cons.1 hp).2 (fun b hb=>by
   have h1:=(List.pairwise_cons.1 hp).1 b hb;exact (List.mem_erase_of_ne (by omega)).2 (hm b (by simp [hb])))
  rw [List.length_erase_of_mem ha] at this;have:=List.length_pos_of_mem ha;simp only [List.length_cons];omega
end Go.Proofs.YtdokmmhjmclmnaaGreat
