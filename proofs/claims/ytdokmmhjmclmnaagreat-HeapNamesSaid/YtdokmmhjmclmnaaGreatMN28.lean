/-
  Part 28 of a proof: RegInv LH9.
-/
import Derived.Deep.RegionHeld3
import Derived.Test.YtdokmmhjmclmnaaGreatMN27
set_option linter.unusedSimpArgs false
set_option linter.unusedVariables false
set_option linter.unusedSectionVars false
set_option linter.unnecessarySimpa false
namespace Go.Proofs.YtdokmmhjmclmnaaGreat
open Go
section
variable {P:Program} {ops:Array Oper} {Q:Exit → Act → World → Prop} {md:Region.Mode} {S:World → Prop}
def also (L:Nat → Bool) (i:Nat):Nat → Bool:=fun j=>if j=i then true else L j
def StepsInv (P:Program) (md:Region.Mode) (ops:Array Oper) (Q:Exit → Act → World → Prop) (S:World → Prop) (I:(Nat → Bool) → Act → World → Prop) (es:List Nat):Prop:=
 ∀ i ∈ es,∀ L a w,I L a w → L i=false → (∀ o,ops[i]? = some o → ∀ e ∈ o.after,Region.binds md e=true → L e.on=true) → wpOp P ops Q i (fun a' w'=>S w' ∧ I (also L i) a' w') a w
theorem StepsInv.nil {I:(Nat → Bool) → Act → World → Prop}:StepsInv P md ops Q S I []:=fun _ h=>by cases h
theorem StepsInv.cons {I:(Nat → Bool) → Act → World → Prop} {i:Nat} {o:Oper} {rs:List Nat} (ho:ops[i]? = some o)
    (h:∀ L a w,I L a w → L i=false → (∀ e ∈ o.after,Region.binds md e=true → L e.on=true) → ∀ K':Act → World → Prop,Shut (∀ a' w',S w' → I (also L i) a' w' → K' a' w') →
     if Region.wanted o (yielded ops a.tmps)=true then Oper.wp P o a w K' Q else K' (a.put o.dst undef) w)
    (hs:StepsInv P md ops Q S I rs):StepsInv P md ops Q S I (i :: rs):=fun j hj=>by
  rcases List.mem_cons.1 hj with rfl | hj
  · exact fun L a w hI hL hc=>wpOp_step ho (fun K' hK=>h L a w hI hL (hc o ho) K' (fun a w hS hW=>hK a w ⟨hS,hW⟩))
  · exact hs j hj
theorem filter_lt {p q:Nat → Bool}:∀ (l:List Nat) (i:Nat),i ∈ l → p i=true → q i=false → (∀ j,q j=true → p j=true) → (l.filter q).length < (l.filter p).length:=by
 intro l
 induction l with
 | nil=>intro i h;cases h
 | cons x xs ih=>
  intro i hi hp hq hm;have hle:(xs.filter q).length ≤ (xs.filter p).length:=by
   rw [← List.countP_eq_length_filter,← List.countP_eq_length_filter];exact List.countP_mono_left (fun j _ h=>hm j h)
  rcases List.mem_cons.1 hi with rfl | hi
  · rw [List.filter_cons_of_pos hp,List.filter_cons_of_neg (by simp [hq]),List.length_cons];omega
  · have h:=ih i hi hp hq hm
    by_cases hx:q x=true
    · rw [List.filter_cons_of_pos hx,List.filter_cons_of_pos (hm x hx),List.length_cons,List.length_cons];omega
    · rw [List.filter_cons_of_neg hx]
      by_cases hy:p x=true
      · rw [List.filter_cons_of_pos hy,List.length_cons];omega
      · rw [List.filter_cons_of_neg hy];exact h
def lowAfter (md:Region.Mode) (ops:Array Oper):Bool:=(List.range ops.size).all fun i=>((ops[i]?).map (fun o=>o.after.all fun e=>!Region.binds md e || decide (e.on < i))).getD true
theorem lowAfter_spec (h:lowAfter md ops=true) {i:Nat} {o:Oper} (ho:ops[i]? = some o):∀ e ∈ o.after,Region.binds md e=true → e.on < i:=by
 unfold lowAfter at h
 rw [List.all_eq_true] at h
 have h1:=h i (List.mem_range.2 (Array.getElem?_eq_some_iff.1 ho).1)
 rw [ho] at h1
 simp only [Option.map_some,Option.getD_some,Array.all_eq_true'] at h1
 intro e he hb
 simpa [hb] using h1 e he
theorem wpAnyH_inv {I:(Nat → Bool) → Act → World → Prop} (es:List Nat) (hlow:lowAfter md ops=true) (hsteps:StepsInv P md ops Q S I es)
    (hend:∀ L a w,I L a w → (∀ i ∈ es,L i=true) → Q .normal a w) :
    ∀ (fuel:Nat) (listed:Array Bool) (a:Act) (w:World),listed.size=ops.size → (∀ i,i < ops.size → i ∉ es → listed.getD i true=true) → (∀ i ∈ es,i < ops.size) →
     (es.filter fun j=>!listed.getD j true).length ≤ fuel → I (fun j=>listed.getD j false) a w → wpAnyH P md ops Q S fuel listed a w:=by
  intro fuel
  have key:∀ (listed:Array Bool) (a:Act) (w:World),listed.size=ops.size → (∀ i,i < ops.size → i ∉ es → listed.getD i true=true) → (∀ i ∈ es,i < ops.size) →
      I (fun j=>listed.getD j false) a w → Region.ready md ops listed=[] → Q .normal a w:=by
    intro listed a w hsz hall hes hI hr;refine hend _ a w hI ?_;have hstrong:∀ n i,i < n → i < ops.size → listed.getD i true=true:=by
     intro n
     induction n with
     | zero=>intro i h;omega
     | succ n ih=>
      intro i hi hio
      by_cases hc:listed.getD i true=true
      · exact hc
      · exfalso;have hm:i ∈ Region.ready md ops listed:=by
         refine mem_ready.2 ⟨by simpa using hc,ops[i],by simp [hio],fun e he hb=>?_⟩;have h1:=lowAfter_spec hlow (show ops[i]? = some ops[i] by simp [hio]) e he hb;have h2:=ih e.on (by omega) (by omega);have h3:e.on < listed.size:=by omega
         simp only [Array.getD,h3,dif_pos] at h2 ⊢;exact h2
        rw [hr] at hm;cases hm
    intro i hi;have h2:=hstrong (i+1) i (by omega) (hes i hi);have h3:i < listed.size:=by rw [hsz];exact hes i hi
    simp only [Array.getD,h3,dif_pos] at h2 ⊢;exact h2
  induction fuel with
  | zero=>
   intro listed a w hsz hall hes hf hI;have hr:Region.ready md ops listed=[]:=by
    rcases hc:Region.ready md ops listed with _ | ⟨i,is⟩
    · rfl
    · have hm:i ∈ Region.ready md ops listed:=by rw [hc];exact List.mem_cons_self
      obtain ⟨h1,o,ho,-⟩:=mem_ready.1 hm;have hio:=(Array.getElem?_eq_some_iff.1 ho).1;have hie:i ∈ es:=Classical.byContradiction fun hne=>by
       have h4:=hall i hio hne;rw [h1] at h4;cases h4
      have hpos:0 < (es.filter fun j=>!listed.getD j true).length:=List.length_pos_of_mem (List.mem_filter.2 ⟨hie,by rw [h1];rfl⟩);omega
   exact ⟨hr,key listed a w hsz hall hes hI hr⟩
  | succ fuel ih=>
   intro listed a w hsz hall hes hf hI;refine ⟨fun hr=>key listed a w hsz hall hes hI hr,fun i hi=>?_⟩;obtain ⟨h1,o,ho,h5⟩:=mem_ready.1 hi;have hio:=(Array.getElem?_eq_some_iff.1 ho).1;have hie:i ∈ es:=Classical.byContradiction fun hne=>by
    have h4:=hall i hio hne;rw [h1] at h4;cases h4
   have hil:i < listed.size:=by omega
   refine wpOp_mono (fun a' w' h=>⟨h.1, ?_⟩) (hsteps i hie _ a w hI (by simp only [Array.getD,hil,dif_pos] at h1 ⊢;exact h1) (fun o' ho' e he hb=>by rw [ho] at ho';cases ho';exact h5 e he hb));refine ih _ a' w' (by simp [hsz]) (fun j hj hne=>?_) hes ?_ ?_
   · have h4:=hall j hj hne
     by_cases hji:i=j
     · subst hji;exact absurd hie hne
     · rw [getD_set_ne true hji];exact h4
   · have h6:(es.filter fun j=>!(listed.setIfInBounds i true).getD j true).length < (es.filter fun j=>!listed.getD j true).length:=by
       refine filter_lt es i hie (by rw [h1];rfl) (by simp [hil]) (fun j hj=>?_)
       by_cases hji:i=j
       · subst hji;rw [h1];rfl
       · rw [getD_set_ne true hji] at hj;exact hj
     omega
   · have h7:(fun j=>(listed.setIfInBounds i true).getD j false)=also (fun j=>listed.getD j false) i:=by
       funext j
       unfold also
       by_cases hji:j=i
       · subst hji;rw [if_pos rfl];simp [hil]
       · rw [if_neg hji];exact getD_set_ne false (Ne.symm hji)
     rw [h7];exact h.2
def putAll (a:Act):List Nat → List Value → Act
 | s :: ss,v :: vs=>putAll (a.put (some s) v) ss vs
 | _,_=>a
theorem put_own (a:Act) (s:Nat):a.put (some s) (a.tmps.getD s undef)=a:=by
 obtain ⟨t,d⟩:=a
 simp only [Act.put,Act.mk.injEq,and_true]
 apply Array.ext_getElem?
 intro i
 by_cases h:s=i
 · subst h
   by_cases hs:s < t.size
   · simp [hs,Array.getD]
   · simp [hs]
 · rw [Array.getElem?_setIfInBounds_ne h]
theorem putAll_own (a:Act):∀ ss:List Nat,putAll a ss (ss.map fun s=>a.tmps.getD s undef)=a:=by
 intro ss
 induction ss with
 | nil=>rfl
 | cons s ss ih=>rw [List.map_cons,putAll,put_own];exact ih
theorem wpAnyH_slots {a:Act} {w:World} {fuel:Nat} {listed:Array Bool} (es ss:List Nat) (J:(Nat → Bool) → List Value → World → Prop) (hlow:lowAfter md ops=true)
    (hsz:(listed.size == ops.size && (List.range ops.size).all (fun i=>decide (i ∈ es) || listed.getD i true) && es.all (fun i=>decide (i < ops.size)) && decide ((es.filter fun j=>!listed.getD j true).length ≤ fuel))=true)
    (h0:J (fun j=>listed.getD j false) (ss.map fun s=>a.tmps.getD s undef) w)
    (hsteps:StepsInv P md ops Q S (fun L a' w'=>∃ vs,a'=putAll a ss vs ∧ J L vs w') es)
    (hend:∀ L vs w',J L vs w' → (∀ i ∈ es,L i=true) → Q .normal (putAll a ss vs) w'):wpAnyH P md ops Q S fuel listed a w:=by
  simp only [Bool.and_eq_true,beq_iff_eq,List.all_eq_true,Bool.or_eq_true,decide_eq_true_eq,List.mem_range] at hsz;refine wpAnyH_inv es hlow hsteps ?_ fuel listed a w hsz.1.1.1 (fun i hi hne=>(hsz.1.1.2 i hi).resolve_left hne) hsz.1.2 hsz.2 ⟨_,(putAll_own a ss).symm,h0⟩;rintro L a' w' ⟨vs,rfl,hJ⟩ hall;exact hend L vs w' hJ hall
end
open Go.RowKit Go.Maps
theorem ActsW.fault {w:World} {p:Option Addr} {c:Nat} {l:List Hp.Act'} (h:ActsW w p c l):∀ x ∈ l,0 ≤ x.fault:=fun x hx=>by
 obtain ⟨j,hj,rfl⟩:=List.getElem_of_mem hx
 obtain ⟨b,o,_,_,hc⟩:=h.cells (by omega)
 obtain ⟨q,c',f,ok,_⟩:=hc j _ (List.getElem?_eq_getElem hj)
 have:(l[j]).fault=f:=ok.fault
 omega
def IntsIn (w:World) (l:List Int) (v:Value) (W:World):Prop:=∃ p c,v = .slice p l.length c ∧ SliceAt W p c l ∧ (0 < l.length ∨ p=none)
theorem IntsIn.ext {w W W':World} {l:List Int} {v:Value} (h:IntsIn w l v W) (e:Ext W W'):IntsIn w l v W':=by
 obtain ⟨p,c,rfl,h1,h2⟩:=h
 exact ⟨p,c,rfl,h1.ext e,h2⟩
def WordsIn (n:Nat) (l:List Int) (v:Value) (W:World):Prop:=∃ g c,v = .slice (some ⟨g,0,none⟩) n c ∧ SliceAt W (some ⟨g,0,none⟩) c l
theorem WordsIn.ext {W W':World} {n:Nat} {l:List Int} {v:Value} (h:WordsIn n l v W) (e:Ext W W'):WordsIn n l v W':=by
 obtain ⟨g,c,rfl,h1⟩:=h
 exact ⟨g,c,rfl,h1.ext e⟩
def ActsIn (acts:List Hp.Act') (v:Value) (W:World):Prop:=∃ p c,v = .slice p acts.length c ∧ ActsAt W p c acts
theorem ActsIn.ext {W W':World} {l:List Hp.Act'} {v:Value} (h:ActsIn l v W) (e:Ext W W'):ActsIn l v W':=by
 obtain ⟨p,c,rfl,h1⟩:=h
 exact ⟨p,c,rfl,h1.ext e⟩
def PlayIn (n:Nat) (l:List Int) (v:Value) (W:World):Prop:=∃ p m c g cap,v = .tuple #[.slice p m c,.slice (some ⟨g,0,none⟩) n cap,.int .i64 0] ∧ SliceAt W (some ⟨g,0,none⟩) cap l
theorem PlayIn.ext {W W':World} {n:Nat} {l:List Int} {v:Value} (h:PlayIn n l v W) (e:Ext W W'):PlayIn n l v W':=by
 obtain ⟨p,m,c,g,cap,rfl,h1⟩:=h
 exact ⟨p,m,c,g,cap,rfl,h1.ext e⟩
def LoadIn (w:World) (S:Hp.Hs) (v:Value) (W:World):Prop:=∃ d:Hd,v = .tuple #[.pointer (some ⟨d.hb,0,none⟩),.int .i64 0] ∧ HAt W d S ∧ (∀ b ∈ d.own,w.heap.size ≤ b) ∧ (∀ b o,d.sp=some ⟨b,o,none⟩ → w.heap.size ≤ b) ∧ ∀ b o,d.op=some ⟨b,o,none⟩ → w.heap.size ≤ b
theorem LoadIn.ext {w W W':World} {S:Hp.Hs} {v:Value} (h:LoadIn w S v W) (e:Ext W W'):LoadIn w S v W':=by
 obtain ⟨d,rfl,h1,h2⟩:=h
 exact ⟨d,rfl,h1.ext e,h2⟩
end Go.Proofs.YtdokmmhjmclmnaaGreat
