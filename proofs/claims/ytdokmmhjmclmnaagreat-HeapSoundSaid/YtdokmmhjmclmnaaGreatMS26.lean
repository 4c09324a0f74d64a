/-
  Part 26 of a proof: PL20 PL30 PL32.
-/
import Derived.Test.YtdokmmhjmclmnaaGreatMS15
import Derived.Test.YtdokmmhjmclmnaaGreatMS25
set_option linter.unusedSimpArgs false
set_option linter.unusedVariables false
set_option linter.unusedSectionVars false
set_option linter.unnecessarySimpa false
namespace Go.Proofs.YtdokmmhjmclmnaaGreat
variable {W' w w' w0:World} {B a b base c ca cap f g i j k k1 k2 lb n oc qc sb sc:Nat} {choice e t x:Int} {A V W fs l o z:List Int} {D T Y:List Nat} {op p p1 p2 pa q sp:Option Addr} {d:Hd} {S S':Hp.Hs} {r:Rd} {L:List Hp.Tl} {M:List (Nat × Int)} {s s' s1:Hp.Sc} {acts:List Hp.Act'} {c0 c1:Value}
namespace Hp
structure DropOk (S S':Hs) (L:List Tl) (ch:Nat->List Nat) (j:Nat):Prop where
 wf:Wf S' 60 L ch
 sizes:S'.sizes=S.sizes
 order:S'.order=S.order
 taken:S'.taken=S.taken
 len:S'.words.length=S.words.length
 zero:∀ i a,i < j->S.taken[i]? = some a->ow S'.words (a+2)=0
 rest:∀ i a,j<=i->S.taken[i]? = some a->ow S'.words (a+2)=ow S.words (a+2)
structure DropIn (S S':Hs) (L:List Tl) (ch:Nat->List Nat) (j:Nat) (a:Nat) (v:Int):Prop where
 wf:Wf S' 60 L ch
 sizes:S'.sizes=S.sizes
 order:S'.order=S.order
 taken:S'.taken=S.taken
 len:S'.words.length=S.words.length
 at_:S.taken[j]? = some a
 zero:∀ i b,i < j->S.taken[i]? = some b->ow S'.words (b+2)=0
 rest:∀ i b,j < i->S.taken[i]? = some b->ow S'.words (b+2)=ow S.words (b+2)
 cur:ow S'.words (a+2)=v
theorem DropOk.start {ch:Nat->List Nat} (h:Wf S 60 L ch):DropOk S S L ch 0:=
 ⟨h,rfl,rfl,rfl,rfl,fun _ _ hi=>by omega,fun _ _ _ _=>rfl⟩
theorem DropOk.into {ch:Nat->List Nat} (h:DropOk S S' L ch j) (ha:S.taken[j]? = some a):DropIn S S' L ch j a (ow S.words (a+2)):=
 ⟨h.wf,h.sizes,h.order,h.taken,h.len,ha,h.zero,fun i b hi hb=>h.rest i b (by omega) hb,h.rest j a (Nat.le_refl _) ha⟩
theorem up_ne (h:T.Pairwise (· < ·)) (hi:T[i]? = some a) (hj:T[j]? = some b) (hne:i ≠ j):a ≠ b:=by
 obtain ⟨l1,rfl⟩:=List.getElem?_eq_some_iff.1 hi
 obtain ⟨l2,rfl⟩:=List.getElem?_eq_some_iff.1 hj
 rw [List.pairwise_iff_getElem] at h
 rcases Nat.lt_or_gt_of_ne hne with hlt | hlt
 . have:=h i j l1 l2 hlt;omega
 have:=h j i l2 l1 hlt
 omega
theorem DropIn.mem {ch:Nat->List Nat} {v:Int} (h:DropIn S S' L ch j a v):a ∈ S'.taken:=by
 rw [h.taken]
 exact List.mem_of_getElem? h.at_
theorem DropIn.range {ch:Nat->List Nat} {v:Int} (h:DropIn S S' L ch j a v):0<=v/\v<=60:=by
 have:=h.wf.holds a h.mem
 rw [h.cur] at this
 omega
theorem DropIn.step {ch:Nat->List Nat} {v:Int} (h:DropIn S S' L ch j a v) (hv:v ≠ 0):∃ S'',S'.drop a=some (0,S'')/\DropIn S S'' L ch j a (v-1):=by
 have hup:S.taken.Pairwise (· < ·):=by rw [<- h.taken];exact h.wf.up
 obtain ⟨W,e,hw,hl,hg⟩:=drop_wf h.wf h.mem (by rw [h.cur];exact hv)
 have far:∀ i b,i ≠ j->S.taken[i]? = some b->ow W (b+2)=ow S'.words (b+2):=fun i b hi hb=>by
  rw [hg,if_neg];have:=up_ne hup hb h.at_ hi;omega
 refine ⟨_,e,hw,h.sizes,h.order,h.taken,hl.trans h.len,h.at_,fun i b hi hb=>?_,fun i b hi hb=>?_, ?_⟩
 . exact (far i b (by omega) hb).trans (h.zero i b hi hb)
 . exact (far i b (by omega) hb).trans (h.rest i b hi hb)
 show ow W (a+2)=v-1
 rw [hg,if_pos rfl,h.cur]
theorem DropIn.done {ch:Nat->List Nat} {v:Int} (h:DropIn S S' L ch j a v) (hv:v=0):S'.drop a=some (9,S')/\DropOk S S' L ch (j+1):=by
 refine ⟨drop_no h.wf h.mem (h.cur.trans hv),h.wf,h.sizes,h.order,h.taken,h.len,fun i b hi hb=>?_,fun i b hi hb=>h.rest i b (by omega) hb⟩
 by_cases e:i=j
 . subst e;have:=h.at_;rw [hb] at this
   cases this
   exact h.cur.trans hv
 exact h.zero i b (by omega) hb
theorem DropOk.all {ch:Nat->List Nat} (h:DropOk S S' L ch S.taken.length):∀ a ∈ S'.taken,ow S'.words (a+2)=0:=fun a ha=>by
 rw [h.taken] at ha
 obtain ⟨i,hi,rfl⟩:=List.getElem_of_mem ha
 exact h.zero i _ hi (List.getElem?_eq_getElem hi)
structure HoldOk (S S':Hs) (L:List Tl) (ch:Nat->List Nat) (j:Nat):Prop where
 wf:Wf S' (60+j) L ch
 sizes:S'.sizes=S.sizes
 order:S'.order=S.order
 taken:S'.taken=S.taken
 len:S'.words.length=S.words.length
theorem HoldOk.skip {ch:Nat->List Nat} (h:HoldOk S S' L ch j) (hj:60+(j+1)<=100000):HoldOk S S' L ch (j+1):=
 ⟨h.wf.more (by omega) hj,h.sizes,h.order,h.taken,h.len⟩
theorem HoldOk.step {ch:Nat->List Nat} (h:HoldOk S S' L ch j) (hj:60+(j+1)<=100000) (ha:S.taken[j]? = some a):∃ S'',S'.hold a=some (0,S'')/\HoldOk S S'' L ch (j+1):=by
 have hm:a ∈ S'.taken:=by rw [h.taken];exact List.mem_of_getElem? ha
 obtain ⟨W,e,hw,hl,_⟩:=hold_wf h.wf (by omega) hm
 exact ⟨_,e,hw,h.sizes,h.order,h.taken,hl.trans h.len⟩
def wsum (S:Hs) (j:Nat):Nat:=widths (ow S.words) S.sizes (S.taken.take j)
theorem wsum_succ (h:S.taken[j]? = some a):wsum S (j+1)=wsum S j+wz S.sizes (ow S.words a):=by
 obtain ⟨hl,rfl⟩:=List.getElem?_eq_some_iff.1 h
 unfold wsum
 rw [List.take_succ_eq_append_getElem hl,widths_app]
 simp [widths]
theorem wsum_le {ch:Nat->List Nat} (h:Wf S B L ch) (j:Nat):wsum S j<=100000:=by
 have h1:=h.widths_
 have h2:=h.hi
 have h3:=widths_app (ow S.words) S.sizes (S.taken.take j) (S.taken.drop j)
 rw [List.take_append_drop] at h3
 unfold wsum
 omega
end Hp
namespace Hp
theorem rdo_of {x:Act'} (h:s.do' x=some s1) (h6:x.kind ≠ 6) (h7:x.kind ≠ 7) :
    ∃ n a e S',rdo s.S s.ats x=some (n,a,e,S')/\s1=⟨S',s.res ++ [if e ≠ 0 then -e else n],s.ats ++ [if e ≠ 0 then 0 else a]⟩:=by
  unfold Sc.do' at h
  unfold rdo
  split at h
  . rename_i k1;simp only [Option.bind_eq_bind,Option.bind_eq_some_iff,Option.some.injEq] at h;obtain ⟨⟨r,e,S'⟩,h1,rfl⟩:=h;refine ⟨r,r,e,S',by rw [if_pos k1,h1];rfl,by simp [Sc.note]⟩
  rename_i k1;rw [if_neg k1]
  split at h
  . rename_i k2;rw [if_pos k2];dsimp only at h
    split at h
    . rename_i hc;rw [if_pos hc];simp only [Option.some.injEq] at h;subst h;exact ⟨0,0,7,s.S,rfl,by simp [Sc.note]⟩
    rename_i hc;rw [if_neg hc]
    split at h
    . rename_i k3;rw [if_pos k3];simp only [Option.bind_eq_bind,Option.bind_eq_some_iff,Option.some.injEq] at h;obtain ⟨⟨r,e,S'⟩,h1,rfl⟩:=h;refine ⟨r,r,e,S',by rw [h1];rfl,by simp [Sc.note]⟩
    rename_i k3;rw [if_neg k3];simp only [Option.bind_eq_bind,Option.bind_eq_some_iff,Option.some.injEq] at h;obtain ⟨⟨r,e⟩,h1,rfl⟩:=h;refine ⟨r,r,e,s.S,by rw [h1];rfl,by simp [Sc.note]⟩
  rename_i k2;rw [if_neg k2]
  split at h
  . rename_i k4;rw [if_pos k4]
    split at h
    . rename_i h0;rw [if_pos h0];simp only [Option.some.injEq] at h;subst h;exact ⟨0,0,7,s.S,rfl,by simp [Sc.note]⟩
    rename_i h0;rw [if_neg h0]
    split at h
    . rename_i k5;rw [if_pos k5];simp only [Option.bind_eq_bind,Option.bind_eq_some_iff,Option.some.injEq] at h;obtain ⟨⟨e,S'⟩,h1,rfl⟩:=h;refine ⟨0,0,e,S',by rw [h1];rfl,by simp [Sc.note]⟩
    rename_i k5;rw [if_neg k5];simp only [Option.bind_eq_bind,Option.bind_eq_some_iff,Option.some.injEq] at h;obtain ⟨⟨e,S'⟩,h1,rfl⟩:=h;refine ⟨0,0,e,S',by rw [h1];rfl,by simp [Sc.note]⟩
  rename_i k4;rw [if_neg k4,if_neg (by omega)]
  first
   | (rw [if_neg h6,if_neg h7] at h
      simp only [Option.some.injEq] at h;subst h;exact ⟨0,0,7,s.S,rfl,by simp [Sc.note]⟩)
   | (simp only [Option.some.injEq] at h
      subst h;exact ⟨0,0,7,s.S,rfl,by simp [Sc.note]⟩)
theorem rdo_67 {x:Act'} (h:x.kind=6 \/ x.kind=7):rdo S A x=some (0,0,0,S):=by
 unfold rdo
 rw [if_neg (by omega),if_neg (by omega),if_neg (by omega),if_pos h]
theorem do_six {x:Act'} (h:s.do' x=some s1) (h6:x.kind=6):∃ m S',s.S.collect=some (m,S')/\s1=⟨S',s.res ++ [(m:Int)],(s.ats.map fun a=>if S'.has a then a else 0) ++ [0]⟩:=by
 unfold Sc.do' at h
 rw [if_neg (by omega),if_neg (by omega),if_neg (by omega),if_pos h6] at h
 simp only [Option.bind_eq_bind,Option.bind_eq_some_iff,Option.some.injEq] at h
 obtain ⟨⟨m,S'⟩,h1,rfl⟩:=h
 exact ⟨m,S',h1,by simp [Sc.note,Sc.forget]⟩
theorem do_seven {x:Act'} (h:s.do' x=some s1) (h7:x.kind=7):∃ m S1 M S2,s.S.collect=some (m,S1)/\S1.moved=some (M,S2)/\s1=⟨S2,s.res ++ [0],((s.ats.map fun a=>if S1.has a then a else 0).map fun a=>if a < 0 then 0 else (getI a.toNat M).getD 0) ++ [0]⟩:=by
 unfold Sc.do' at h
 rw [if_neg (by omega),if_neg (by omega),if_neg (by omega),if_neg (by omega),if_pos h7] at h
 simp only [Option.bind_eq_bind,Option.bind_eq_some_iff,Option.some.injEq] at h
 obtain ⟨⟨m,S1⟩,h1,⟨M,S2⟩,h2,rfl⟩:=h
 exact ⟨m,S1,M,S2,h1,h2,by simp [Sc.note,Sc.forget]⟩
theorem natsI_has (hY:∀ a,a ∈ Y ↔ a ∈ S.taken) (x:Int):(natsI Y).contains x=S.has x:=by
 rw [Bool.eq_iff_iff,List.contains_iff_mem]
 constructor
 . intro h;obtain ⟨a,ha,rfl⟩:=natsI_zero h;exact has_of ((hY a).1 ha)
 intro h
 obtain ⟨a,rfl,ha⟩:=has_yes h
 exact natsI_mem.2 ((hY a).2 ha)
theorem kept_six (hY:∀ a,a ∈ Y ↔ a ∈ S.taken) (A:List Int):A.map (keptF (natsI Y) [])=A.map fun a=>if S.has a then a else 0:=by
 refine List.map_congr_left fun x _=>?_
 unfold keptF
 rw [natsI_has hY]
 rfl
theorem kept_seven {S2:Hs} {m:Nat->Nat} {ch:Nat->List Nat} (hw:Wf S B L ch) (hm:Moved S S2 M m) (hY:∀ a,a ∈ Y ↔ a ∈ S.taken) (A:List Int) :
    A.map (keptF (natsI Y) (pairsOf m S.taken))=(A.map fun a=>if S.has a then a else 0).map fun a=>if a < 0 then 0 else (getI a.toNat M).getD 0:=by
  rw [List.map_map];refine List.map_congr_left fun x _=>?_
  unfold keptF;rw [natsI_has hY];show _=(if (if S.has x then x else 0) < 0 then 0 else (getI (if S.has x then x else 0).toNat M).getD 0)
  cases hh:S.has x with
  | false=>
   simp only [Bool.false_eq_true,if_false];have h0:0 ∉ S.taken:=fun hm=>by
    have:=hw.part hm;omega
   have e:getI (0:Int).toNat M=none:=by
    rw [hm.get];exact if_neg h0
   rw [e];rfl
  | true=>
   obtain ⟨a,rfl,ha⟩:=has_yes hh;simp only [if_true];rw [if_neg (by omega),Int.toNat_natCast,hm.get,if_pos ha,scanP_pairs (up_nodup hw.up) ha];rfl
theorem live_left {k0:Nat} {ch:Nat->List Nat} (hw:Wf S B L ch) (hT:S.live=some T) (hco:S.collect=some (k0,S')) (a:Nat):a ∈ T ↔ a ∈ S'.taken:=by
 obtain ⟨T',hT',t1,t2,_⟩:=hw.live_
 rw [hT] at hT'
 cases hT'
 obtain ⟨S1,L1,e,hc,_⟩:=collect_wf hw hT
 rw [hco] at e
 simp only [Option.some.injEq,Prod.mk.injEq] at e
 obtain ⟨_,rfl⟩:=e
 rw [hc.taken]
 simp only [List.mem_filter,List.contains_iff_mem]
 exact ⟨fun h=>⟨t2 a h,h⟩,fun h=>h.2⟩
end Hp
open Go.RowKit
theorem rdo_bound {x:Hp.Act'} {n a:Int} (hs:S.words.length<=1000000) (hA:∀ y ∈ A,-9223372036854775808<=y/\y<=9223372036854775807) (h:Hp.rdo S A x=some (n,a,e,S')) :
    (-9223372036854775808<=n/\n<=9223372036854775807)/\(-9223372036854775808<=a/\a<=9223372036854775807)/\0<=e/\e<=9:=by
  have hk:∀ y ∈ x.list.map (Hp.nameOf A),-9223372036854775808<=y/\y<=9223372036854775807:=fun y hy=>by
   obtain ⟨v,_,rfl⟩:=List.mem_map.1 hy;exact nameOf_wf hA v
  unfold Hp.rdo at h
  split at h
  . simp only [Option.bind_eq_bind,Option.bind_eq_some_iff,Option.some.injEq,Prod.mk.injEq] at h;obtain ⟨⟨r,e,S1⟩,h1,rfl,rfl,rfl,rfl⟩:=h;have:=end_small hs h1;dsimp only at *;omega
  split at h
  . split at h
    . simp only [Option.some.injEq,Prod.mk.injEq] at h;omega
    split at h
    . simp only [Option.bind_eq_bind,Option.bind_eq_some_iff,Option.some.injEq,Prod.mk.injEq] at h;obtain ⟨⟨r,e,S1⟩,h1,rfl,rfl,rfl,rfl⟩:=h;have:=make_wf hs hk h1;dsimp only at *;omega
    simp only [Option.bind_eq_bind,Option.bind_eq_some_iff,Option.some.injEq,Prod.mk.injEq] at h;obtain ⟨⟨r,e⟩,h1,rfl,rfl,rfl,rfl⟩:=h;have:=find_wf hs hk h1;dsimp only at *;omega
  split at h
  . split at h
    . simp only [Option.some.injEq,Prod.mk.injEq] at h;omega
    split at h
    . simp only [Option.bind_eq_bind,Option.bind_eq_some_iff,Option.some.injEq,Prod.mk.injEq] at h;obtain ⟨⟨e,S1⟩,h1,rfl,rfl,rfl,rfl⟩:=h;have:=hold_small h1;dsimp only at *;omega
    simp only [Option.bind_eq_bind,Option.bind_eq_some_iff,Option.some.injEq,Prod.mk.injEq] at h;obtain ⟨⟨e,S1⟩,h1,rfl,rfl,rfl,rfl⟩:=h;have:=drop_small h1;dsimp only at *;omega
  split at h
  . simp only [Option.some.injEq,Prod.mk.injEq] at h;omega
  simp only [Option.some.injEq,Prod.mk.injEq] at h;omega
namespace Hp
theorem full_zero {x:Nat × Hs} {r:Int × Int × Hs} (h:Hs.full x=r) (he:r.2.1 ≠ 0):r.1=0:=by
 subst h
 unfold Hs.full at he ⊢
 split
 . rfl
 rename_i h0
 rw [if_neg h0] at he
 exact absurd rfl he
theorem end_zero {f n r:Int} (h:S.end' f n=some (r,e,S')) (he:e ≠ 0):r=0:=by
 unfold Hs.end' at h
 split at h
 . simp only [Option.some.injEq,Prod.mk.injEq] at h;exact h.1.symm
 simp only [Option.bind_eq_bind,Option.bind_eq_some_iff,Option.pure_def,Option.some.injEq] at h
 obtain ⟨a,_,h⟩:=h
 exact full_zero h he
theorem make_zero {c r:Int} (h:S.make c l=some (r,e,S')) (he:e ≠ 0):r=0:=by
 unfold Hs.make at h
 simp only [Option.bind_eq_bind,Option.bind_eq_some_iff] at h
 obtain ⟨e1,_,h⟩:=h
 split at h
 . simp only [Option.some.injEq,Prod.mk.injEq] at h;exact h.1.symm
 split at h
 . simp only [Option.bind_eq_some_iff,Option.some.injEq,Prod.mk.injEq] at h;obtain ⟨_,_,_,h,_⟩:=h;exact absurd h.symm he
 simp only [Option.bind_eq_some_iff,Option.pure_def,Option.some.injEq] at h
 obtain ⟨a,_,h⟩:=h
 exact full_zero h he
theorem find_zero {c r:Int} (h:S.find c l=some (r,e)) (he:e ≠ 0):r=0:=by
 unfold Hs.find at h
 simp only [Option.bind_eq_bind,Option.bind_eq_some_iff] at h
 obtain ⟨e1,_,h⟩:=h
 split at h
 . simp only [Option.some.injEq,Prod.mk.injEq] at h;exact h.1.symm
 split at h
 . simp only [Option.bind_eq_some_iff,Option.some.injEq,Prod.mk.injEq] at h;obtain ⟨_,_,_,h⟩:=h;exact absurd h.symm he
 simp only [Option.bind_eq_some_iff] at h
 obtain ⟨a,_,h⟩:=h
 split at h
 . simp only [Option.some.injEq,Prod.mk.injEq] at h;exact h.1.symm
 simp only [Option.some.injEq,Prod.mk.injEq] at h
 exact absurd h.2.symm he
theorem ite_zero {r:Int} (h:e ≠ 0->r=0):(if e ≠ 0 then 0 else r)=r:=by
 split
 . rename_i he;exact (h he).symm
 rfl
theorem dd_end {x:Act'} (h:s.do' x=some s1) (hk:x.kind=1):∃ r e,s.S.end' x.fault x.n=some (r,e,s1.S)/\s1.ats=s.ats ++ [r]:=by
 obtain ⟨n,a,e,S',hr,rfl⟩:=rdo_of h (by omega) (by omega)
 unfold rdo at hr
 rw [if_pos hk] at hr
 simp only [Option.bind_eq_bind,Option.bind_eq_some_iff,Option.some.injEq,Prod.mk.injEq] at hr
 obtain ⟨⟨r,e1,S1⟩,h1,rfl,rfl,rfl,rfl⟩:=hr
 exact ⟨_,_,h1,by rw [ite_zero (end_zero h1)]⟩
theorem dd_make {x:Act'} (h:s.do' x=some s1) (hk:x.kind=2) :
    ((x.list.map (nameOf s.ats)).contains 0=true/\s1.S=s.S/\s1.ats=s.ats ++ [0]) \/ ((x.list.map (nameOf s.ats)).contains 0=false /\ ∃ r e,s.S.make x.a (x.list.map (nameOf s.ats))=some (r,e,s1.S)/\s1.ats=s.ats ++ [r]):=by
  obtain ⟨n,a,e,S',hr,rfl⟩:=rdo_of h (by omega) (by omega);unfold rdo at hr;rw [if_neg (by omega),if_pos (.inl hk)] at hr
  cases hc:(x.list.map (nameOf s.ats)).contains 0 with
  | true=>
   rw [hc,if_pos rfl] at hr;simp only [Option.some.injEq,Prod.mk.injEq] at hr;obtain ⟨rfl,rfl,rfl,rfl⟩:=hr;exact .inl ⟨rfl,rfl,by simp⟩
  | false=>
   rw [hc,if_neg (by decide),if_pos hk] at hr;simp only [Option.bind_eq_bind,Option.bind_eq_some_iff,Option.some.injEq,Prod.mk.injEq] at hr;obtain ⟨⟨r,e1,S1⟩,h1,rfl,rfl,rfl,rfl⟩:=hr;exact .inr ⟨rfl,_,_,h1,by rw [ite_zero (make_zero h1)]⟩
theorem dd_find {x:Act'} (h:s.do' x=some s1) (hk:x.kind=3) :
    ((x.list.map (nameOf s.ats)).contains 0=true/\s1.S=s.S/\s1.ats=s.ats ++ [0]) \/ ((x.list.map (nameOf s.ats)).contains 0=false/\s1.S=s.S /\ ∃ r e,s.S.find x.a (x.list.map (nameOf s.ats))=some (r,e)/\s1.ats=s.ats ++ [r]):=by
  obtain ⟨n,a,e,S',hr,rfl⟩:=rdo_of h (by omega) (by omega);unfold rdo at hr;rw [if_neg (by omega),if_pos (.inr hk)] at hr
  cases hc:(x.list.map (nameOf s.ats)).contains 0 with
  | true=>
   rw [hc,if_pos rfl] at hr;simp only [Option.some.injEq,Prod.mk.injEq] at hr;obtain ⟨rfl,rfl,rfl,rfl⟩:=hr;exact .inl ⟨rfl,rfl,by simp⟩
  | false=>
   rw [hc,if_neg (by decide),if_neg (by omega)] at hr;simp only [Option.bind_eq_bind,Option.bind_eq_some_iff,Option.some.injEq,Prod.mk.injEq] at hr;obtain ⟨⟨r,e1⟩,h1,rfl,rfl,rfl,rfl⟩:=hr;exact .inr ⟨rfl,rfl,_,_,h1,by rw [ite_zero (find_zero h1)]⟩
theorem dd_hold {x:Act'} (h:s.do' x=some s1) (hk:x.kind=4) :
    s1.ats=s.ats ++ [0]/\((nameOf s.ats x.a=0/\s1.S=s.S) \/ (nameOf s.ats x.a ≠ 0 /\ ∃ e,s.S.hold (nameOf s.ats x.a)=some (e,s1.S))):=by
  obtain ⟨n,a,e,S',hr,rfl⟩:=rdo_of h (by omega) (by omega);unfold rdo at hr;rw [if_neg (by omega),if_neg (by omega),if_pos (.inl hk)] at hr
  by_cases hc:nameOf s.ats x.a=0
  . rw [if_pos hc] at hr;simp only [Option.some.injEq,Prod.mk.injEq] at hr;obtain ⟨rfl,rfl,rfl,rfl⟩:=hr;exact ⟨by simp,.inl ⟨hc,rfl⟩⟩
  rw [if_neg hc,if_pos hk] at hr;simp only [Option.bind_eq_bind,Option.bind_eq_some_iff,Option.some.injEq,Prod.mk.injEq] at hr;obtain ⟨⟨e1,S1⟩,h1,rfl,rfl,rfl,rfl⟩:=hr;exact ⟨by simp,.inr ⟨hc,_,h1⟩⟩
theorem dd_drop {x:Act'} (h:s.do' x=some s1) (hk:x.kind=5) :
    s1.ats=s.ats ++ [0]/\((nameOf s.ats x.a=0/\s1.S=s.S) \/ (nameOf s.ats x.a ≠ 0 /\ ∃ e,s.S.drop (nameOf s.ats x.a)=some (e,s1.S))):=by
  obtain ⟨n,a,e,S',hr,rfl⟩:=rdo_of h (by omega) (by omega);unfold rdo at hr;rw [if_neg (by omega),if_neg (by omega),if_pos (.inr hk)] at hr
  by_cases hc:nameOf s.ats x.a=0
  . rw [if_pos hc] at hr;simp only [Option.some.injEq,Prod.mk.injEq] at hr;obtain ⟨rfl,rfl,rfl,rfl⟩:=hr;exact ⟨by simp,.inl ⟨hc,rfl⟩⟩
  rw [if_neg hc,if_neg (by omega)] at hr;simp only [Option.bind_eq_bind,Option.bind_eq_some_iff,Option.some.injEq,Prod.mk.injEq] at hr;obtain ⟨⟨e1,S1⟩,h1,rfl,rfl,rfl,rfl⟩:=hr;exact ⟨by simp,.inr ⟨hc,_,h1⟩⟩
theorem dd_rest {x:Act'} (h:s.do' x=some s1) (h1:x.kind ≠ 1) (h2:x.kind ≠ 2) (h3:x.kind ≠ 3) (h4:x.kind ≠ 4) (h5:x.kind ≠ 5) (h6:x.kind ≠ 6) (h7:x.kind ≠ 7):s1.S=s.S/\s1.ats=s.ats ++ [0]:=by
 obtain ⟨n,a,e,S',hr,rfl⟩:=rdo_of h h6 h7
 unfold rdo at hr
 rw [if_neg h1,if_neg (by omega),if_neg (by omega),if_neg (by omega)] at hr
 simp only [Option.some.injEq,Prod.mk.injEq] at hr
 obtain ⟨rfl,rfl,rfl,rfl⟩:=hr
 exact ⟨rfl,by simp⟩
end Hp
end Go.Proofs.YtdokmmhjmclmnaaGreat
