/- Part 14 of a proof. -/
import Derived.Test.YtdokmmhjmclmnaaGreatMU13
set_option linter.unusedSimpArgs false
set_option linter.unusedVariables false
set_option linter.unusedSectionVars false
set_option linter.unnecessarySimpa false
namespace Go.Proofs.YtdokmmhjmclmnaaGreat
variable {W' w w' w0 wb:World} {B a b bx c ca cap ce cn f g i j k lb m n qc:Nat} {choice e t x:Int} {A W fs ks l o z:List Int} {D T Y:List Nat} {p p2 pa pe pn q:Option Addr} {d:Hd} {S S':Hp.Hs} {M:List (Nat × Int)} {s:Hp.Sc}
open Go.RowKit
def Hp.Hs.chainOf (S:Hp.Hs) (a:Nat):Option Nat:=do Hp.chain (<- S.tag a) (<- S.fields a)
def Hp.Hs.L9a (S:Hp.Hs) (head:Nat):Nat->Int->List Nat->Option (Option (List Nat))
 | 0,_,_=>none
 | n+1,x,seen=>
  if x=0 then some (some seen) else
  if ({ S with taken:=seen }:Hp.Hs).has x || !S.has x then some none else do
  let c <- S.chainOf x.toNat
  if c ≠ head then some none else do
  let y <- Hp.rd S.words (x.toNat+3)
  S.L9a head n y (Hp.Hs.insert x.toNat seen)
def Hp.Hs.M9a (S:Hp.Hs):Nat->Nat->List Nat->Option (Option (List Nat))
 | 0,_,seen=>some (some seen)
 | n+1,head,seen=>do
  let x <- Hp.rd S.words head
  let r <- S.L9a head (S.taken.length+1) x seen
  match r with
  | none=>some none
  | some seen=>S.M9a n (head+1) seen
def Hp.Hs.f9a (S:Hp.Hs):Option Bool:=do
 let r <- S.M9a 16 0 []
 match r with
 | none=>some false
 | some seen=>some (seen.length == S.taken.length)
def F5b (S:Hp.Hs):Prop:=∀ a ∈ S.taken,∃ (t:Int) (l:List Int) (c:Nat) (y:Int),S.tag a=some t/\S.fields a=some l/\Hp.chain t l=some c/\Hp.rd S.words (a+3)=some y
theorem d9a (h1:S.tag a=some t) (h2:S.fields a=some l) (h3:Hp.chain t l=some c):S.chainOf a=some c:=by
 simp [Hp.Hs.chainOf,h1,h2,h3]
theorem a6a {a:Nat}:∀ {T:List Nat},a ∉ T->(Hp.Hs.insert a T).length=T.length+1
 | [],_=>rfl
 | b :: r,h=>by
  have h1:a ≠ b:=fun e=>h (by simp [e])
  have h2:a ∉ r:=fun e=>h (by simp [e])
  unfold Hp.Hs.insert
  split
  . simp
  simp [h1,a6a h2]
theorem o6a:∀ {l m:List Nat},l.Pairwise (· < ·)->(∀ a ∈ l,a ∈ m)->l.length<=m.length
 | [],_,_,_=>G9c _
 | a :: r,m,hp,hm=>by
  have ha:a ∈ m:=hm a (by simp);have:=o6a (l:=r) (m:=m.erase a) (w3b.1 hp).2 (fun b hb=>by
   have h1:=(w3b.1 hp).1 b hb;exact (t9b (by omega)).2 (hm b (by simp [hb])))
  rw [r3b ha] at this;have:=s2b ha;simp only [A5c];omega
end Go.Proofs.YtdokmmhjmclmnaaGreat
