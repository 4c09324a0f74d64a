/-
  Part 23 of a proof: RegInv LH9.
-/
import Derived.Deep.RegionHeld3
import Derived.Test.YtdokmmhjmclmnaaGreatMV22
set_option linter.unusedSimpArgs false
set_option linter.unusedVariables false
set_option linter.unusedSectionVars false
set_option linter.unnecessarySimpa false
namespace Go.Proofs.YtdokmmhjmclmnaaGreat
variable {W' w w' w0 wb:World} {B a b base c cap ce cn f g gb i j k lb m n oc s sc:Nat} {choice t x:Int} {G W fs l o xs z:List Int} {L:List Hp.Tl} {r:Rd} {S S':Hp.Hs} {A N T:List Nat} {M:List (Nat × Int)} {op p pe pn q sp:Option Addr} {d:Hd} {acts:List Hp.Act'}
open Go
section
variable {P:Program} {ops:Array Oper} {Q:Exit->Act->World->Prop} {md:Region.Mode} {S:World->Prop}
def also (L:Nat->Bool) (i:Nat):Nat->Bool:=fun j=>if j=i then true else L j
def StepsInv (P:Program) (md:Region.Mode) (ops:Array Oper) (Q:Exit->Act->World->Prop) (S:World->Prop) (I:(Nat->Bool)->Act->World->Prop) (es:List Nat):Prop:=
 ∀ i ∈ es,∀ L a w,I L a w->L i=false->(∀ o,ops[i]? = some o -> ∀ e ∈ o.after,Region.binds md e=true->L e.on=true)->wpOp P ops Q i (fun a' w'=>S w'/\I (also L i) a' w') a w
theorem StepsInv.nil {I:(Nat->Bool)->Act->World->Prop}:StepsInv P md ops Q S I []:=fun _ h=>by cases h
theorem StepsInv.cons {I:(Nat->Bool)->Act->World->Prop} {o:Oper} {rs:List Nat} (ho:ops[i]? = some o)
    (h:∀ L a w,I L a w->L i=false->(∀ e ∈ o.after,Region.binds md e=true->L e.on=true) -> ∀ K':Act->World->Prop,Shut (∀ a' w',S w'->I (also L i) a' w'->K' a' w') ->
     if Region.wanted o (yielded ops a.tmps)=true then Oper.wp P o a w K' Q else K' (a.put o.dst undef) w)
    (hs:StepsInv P md ops Q S I rs):StepsInv P md ops Q S I (i :: rs):=fun j hj=>by
  rcases List.mem_cons.1 hj with rfl | hj
  . exact fun L a w hI hL hc=>wpOp_step ho (fun K' hK=>h L a w hI hL (hc o ho) K' (fun a w hS hW=>hK a w ⟨hS,hW⟩))
  exact hs j hj
end
open Go.RowKit Go.Maps
theorem ActsW.fault {l:List Hp.Act'} (h:ActsW w p c l):∀ x ∈ l,0<=x.fault:=fun x hx=>by
 obtain ⟨j,hj,rfl⟩:=List.getElem_of_mem hx
 obtain ⟨b,o,_,_,hc⟩:=h.cells (by omega)
 obtain ⟨q,c',f,ok,_⟩:=hc j _ (List.getElem?_eq_getElem hj)
 have:(l[j]).fault=f:=ok.fault
 omega
def IntsIn (w:World) (l:List Int) (v:Value) (W:World):Prop:=∃ p c,v = .slice p l.length c/\SliceAt W p c l/\(0 < l.length \/ p=none)
theorem IntsIn.ext {W:World} {v:Value} (h:IntsIn w l v W) (e:Ext W W'):IntsIn w l v W':=by
 obtain ⟨p,c,rfl,h1,h2⟩:=h
 exact ⟨p,c,rfl,h1.ext e,h2⟩
def WordsIn (n:Nat) (l:List Int) (v:Value) (W:World):Prop:=∃ g c,v = .slice (some ⟨g,0,none⟩) n c/\SliceAt W (some ⟨g,0,none⟩) c l
theorem WordsIn.ext {W:World} {v:Value} (h:WordsIn n l v W) (e:Ext W W'):WordsIn n l v W':=by
 obtain ⟨g,c,rfl,h1⟩:=h
 exact ⟨g,c,rfl,h1.ext e⟩
def ActsIn (acts:List Hp.Act') (v:Value) (W:World):Prop:=∃ p c,v = .slice p acts.length c/\ActsAt W p c acts
theorem ActsIn.ext {W:World} {l:List Hp.Act'} {v:Value} (h:ActsIn l v W) (e:Ext W W'):ActsIn l v W':=by
 obtain ⟨p,c,rfl,h1⟩:=h
 exact ⟨p,c,rfl,h1.ext e⟩
def PlayIn (n:Nat) (l:List Int) (v:Value) (W:World):Prop:=∃ p m c g cap,v = .tuple #[.slice p m c,.slice (some ⟨g,0,none⟩) n cap,.int .i64 0]/\SliceAt W (some ⟨g,0,none⟩) cap l
theorem PlayIn.ext {W:World} {v:Value} (h:PlayIn n l v W) (e:Ext W W'):PlayIn n l v W':=by
 obtain ⟨p,m,c,g,cap,rfl,h1⟩:=h
 exact ⟨p,m,c,g,cap,rfl,h1.ext e⟩
def LoadIn (w:World) (S:Hp.Hs) (v:Value) (W:World):Prop:=∃ d:Hd,v = .tuple #[.pointer (some ⟨d.hb,0,none⟩),.int .i64 0]/\HAt W d S/\(∀ b ∈ d.own,w.heap.size<=b)/\(∀ b o,d.sp=some ⟨b,o,none⟩->w.heap.size<=b) /\ ∀ b o,d.op=some ⟨b,o,none⟩->w.heap.size<=b
theorem LoadIn.ext {W:World} {v:Value} (h:LoadIn w S v W) (e:Ext W W'):LoadIn w S v W':=by
 obtain ⟨d,rfl,h1,h2⟩:=h
 exact ⟨d,rfl,h1.ext e,h2⟩
end Go.Proofs.YtdokmmhjmclmnaaGreat
