/-
  Part 13 of a proof: HLoadN.
-/
import Derived.Test.YtdokmmhjmclmnaaGreatMV12
set_option linter.unusedSimpArgs false
set_option linter.unusedVariables false
set_option linter.unusedSectionVars false
set_option linter.unnecessarySimpa false
namespace Go.Proofs.YtdokmmhjmclmnaaGreat
variable {W' w w' w0 wb:World} {B a b base c cap ce cn f g gb i j k lb m n oc s sc:Nat} {choice t x:Int} {G W fs l o xs z:List Int} {S S':Hp.Hs} {A N T:List Nat} {M:List (Nat × Int)} {op p pe pn q sp:Option Addr} {d:Hd} {acts:List Hp.Act'}
open Go.RowKit
def Hp.Hs.chainOf (S:Hp.Hs) (a:Nat):Option Nat:=do Hp.chain (<- S.tag a) (<- S.fields a)
def Hp.Hs.linkFrom (S:Hp.Hs) (head:Nat):Nat->Int->List Nat->Option (Option (List Nat))
 | 0,_,_=>none
 | n+1,x,seen=>
  if x=0 then some (some seen) else
  if ({ S with taken:=seen }:Hp.Hs).has x || !S.has x then some none else do
  let c <- S.chainOf x.toNat
  if c ≠ head then some none else do
  let y <- Hp.rd S.words (x.toNat+3)
  S.linkFrom head n y (Hp.Hs.insert x.toNat seen)
def Hp.Hs.headsFrom (S:Hp.Hs):Nat->Nat->List Nat->Option (Option (List Nat))
 | 0,_,seen=>some (some seen)
 | n+1,head,seen=>do
  let x <- Hp.rd S.words head
  let r <- S.linkFrom head (S.taken.length+1) x seen
  match r with
  | none=>some none
  | some seen=>S.headsFrom n (head+1) seen
def Hp.Hs.chainedB (S:Hp.Hs):Option Bool:=do
 let r <- S.headsFrom 16 0 []
 match r with
 | none=>some false
 | some seen=>some (seen.length == S.taken.length)
def ChainsOk (S:Hp.Hs):Prop:=∀ a ∈ S.taken,∃ (t:Int) (l:List Int) (c:Nat) (y:Int),S.tag a=some t/\S.fields a=some l/\Hp.chain t l=some c/\Hp.rd S.words (a+3)=some y
theorem chainOf_some (h1:S.tag a=some t) (h2:S.fields a=some l) (h3:Hp.chain t l=some c):S.chainOf a=some c:=by
 simp [Hp.Hs.chainOf,h1,h2,h3]
theorem insert_length {a:Nat}:∀ {T:List Nat},a ∉ T->(Hp.Hs.insert a T).length=T.length+1
 | [],_=>rfl
 | b :: r,h=>by
  have h1:a ≠ b:=fun e=>h (by simp [e])
  have h2:a ∉ r:=fun e=>h (by simp [e])
  unfold Hp.Hs.insert
  split
  . simp
  simp [h1,insert_length h2]
theorem len_within:∀ {l m:List Nat},l.Pairwise (· < ·)->(∀ a ∈ l,a ∈ m)->l.length<=m.length
 | [],_,_,_=>Nat.zero_le _
 | a :: r,m,hp,hm=>by
  have ha:a ∈ m:=hm a (by simp);have:=len_within (l:=r) (m:=m.erase a) (List.pairwise_cons.1 hp).2 (fun b hb=>by
   have h1:=(List.pairwise_cons.1 hp).1 b hb;exact (List.mem_erase_of_ne (by omega)).2 (hm b (by simp [hb])))
  rw [List.length_erase_of_mem ha] at this;have:=List.length_pos_of_mem ha;simp only [List.length_cons];omega
theorem linkFrom_total {S:Hp.Hs} {head:Nat} (hc:ChainsOk S):∀ {n:Nat} {x:Int} {seen:List Nat},seen.Pairwise (· < ·)->(∀ a ∈ seen,a ∈ S.taken)->S.taken.length < seen.length+n ->
    ∃ r,S.linkFrom head n x seen=some r /\ ∀ s,r=some s->s.Pairwise (· < ·) /\ ∀ a ∈ s,a ∈ S.taken
  | 0,x,seen,hs,hm,hl=>by
   have:=len_within hs hm;omega
  | n+1,x,seen,hs,hm,hl=>by
   unfold Hp.Hs.linkFrom
   by_cases h0:x=0
   . exact ⟨some seen,by rw [if_pos h0],fun s e=>by cases e;exact ⟨hs,hm⟩⟩
   rw [if_neg h0]
   by_cases h1:(({ S with taken:=seen }:Hp.Hs).has x || !S.has x)=true
   . exact ⟨none,by rw [if_pos h1],fun s e=>by cases e⟩
   rw [if_neg h1];simp only [Bool.not_eq_true,Bool.or_eq_false_iff,Bool.not_eq_false'] at h1;obtain ⟨a,rfl,ha⟩:=has_nat h1.2;have hn:a ∉ seen:=fun hh=>by
    have h:=h1.1;simp [Hp.Hs.has,hh] at h
   obtain ⟨t,l,c,y,k1,k2,k3,k4⟩:=hc a ha;simp only [Int.toNat_natCast,chainOf_some k1 k2 k3,k4,Option.bind_eq_bind,Option.bind_some]
   by_cases h2:c ≠ head
   . exact ⟨none,by rw [if_pos h2],fun s e=>by cases e⟩
   rw [if_neg h2];exact linkFrom_total hc (sorted_ins a hs) (fun b hb=>by
    rcases (mem_ins a b seen).1 hb with rfl | hb
    . exact ha
    . exact hm b hb) (by rw [insert_length hn];omega)
theorem headsFrom_total {S:Hp.Hs} (hc:ChainsOk S) (h17:17<=S.words.length):∀ {n head:Nat} {seen:List Nat},seen.Pairwise (· < ·)->(∀ a ∈ seen,a ∈ S.taken)->head+n<=16 ->
    ∃ r,S.headsFrom n head seen=some r
  | 0,head,seen,hs,hm,hl=>⟨_,rfl⟩
  | n+1,head,seen,hs,hm,hl=>by
   obtain ⟨x,hx⟩:=rd_get (l:=S.words) (j:=head) (by omega);obtain ⟨r,hr,hs'⟩:=linkFrom_total (head:=head) hc (n:=S.taken.length+1) (x:=x) hs hm (by omega);unfold Hp.Hs.headsFrom;simp only [hx,hr,Option.bind_eq_bind,Option.bind_some]
   cases r with
   | none=>exact ⟨_,rfl⟩
   | some s=>
    obtain ⟨k1,k2⟩:=hs' s rfl;exact headsFrom_total hc h17 k1 k2 (by omega)
end Go.Proofs.YtdokmmhjmclmnaaGreat
